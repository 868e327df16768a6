/- Texts of this claim in one: VWrP; no condition. -/
import Derived.Test.YteopkkoblbmggaaUAK
import Derived.Test.YteopkkoblbmggaaUBC
import Derived.Test.YteopkkoblbmggaaUAY
import Derived.Test.YteopkkoblbmggaaUAZ
section
set_option linter.unusedVariables false
set_option linter.unusedSimpArgs false
namespace Go.Proofs.Yteopkkoblbmggaa.P
open Go.RowKit Go.Proofs.YteopkkoblbmggaaW.PrintWords Go.Proofs.YteopkkoblbmggaaW.PrintLast Go.Proofs.YteopkkoblbmggaaW.PrintMore
def zS26 (x : S26) : Prop := okZ x.f0 ∧ okZ x.f1
def zS28 (x : S28) : Prop := okZ x.f0 ∧ okZ x.f1 ∧ okZ x.f2 ∧ okZ x.f3 ∧ okZ x.f4 ∧ okZ x.f5 ∧ okZ x.f6
/-- An edit's numbers are ints. -/
def zS30 (x : S30) : Prop := zS26 x.f0 ∧ okZ x.f1 ∧ zS26 x.f2 ∧ True ∧ zS28 x.f4
theorem zS_okE {x : S30} (h : zS30 x) : okE x.f0.f0 x.f0.f1 x.f1 x.f2.f0 x.f2.f1 x.f4.f0 x.f4.f1 x.f4.f2 x.f4.f3 x.f4.f4 x.f4.f5 x.f4.f6 := by
  obtain ⟨⟨a, b⟩, c, ⟨d, e⟩, _, f, g, h, i, j, k, l⟩ := h
  exact ⟨a, b, c, d, e, f, g, h, i, j, k, l⟩
theorem zS_okE30 {x : S30} (h : zS30 x) : okE30 x := by
  have e1 : IntKind.i64.min = -9223372036854775808 := rfl
  have e2 : IntKind.i64.max = 9223372036854775807 := rfl
  obtain ⟨_, c, ⟨d, e⟩, _⟩ := h
  unfold okZ at c d e
  refine ⟨?_, ?_, ?_⟩ <;> (unfold okN; simp only [Lit.wf, e1, e2, Bool.and_eq_true, decide_eq_true_eq]; assumption)
/-- The frame of an edit. -/
def frS (x : S30) : List Int := frameB (putB x.f0.f0 x.f0.f1 x.f1 x.f2.f0 x.f2.f1 x.f3 x.f4.f0 x.f4.f1 x.f4.f2 x.f4.f3 x.f4.f4 x.f4.f5 x.f4.f6)
theorem frS_len (x : S30) : (frS x).length ≤ 150 := by
  have h1 := putB_len x.f0.f0 x.f0.f1 x.f1 x.f2.f0 x.f2.f1 x.f3 x.f4.f0 x.f4.f1 x.f4.f2 x.f4.f3 x.f4.f4 x.f4.f5 x.f4.f6
  have h2 := (enc_len ((putB x.f0.f0 x.f0.f1 x.f1 x.f2.f0 x.f2.f1 x.f3 x.f4.f0 x.f4.f1 x.f4.f2 x.f4.f3 x.f4.f4 x.f4.f5 x.f4.f6).length : Int)).2
  have h3 := frameB_len (putB x.f0.f0 x.f0.f1 x.f1 x.f2.f0 x.f2.f1 x.f3 x.f4.f0 x.f4.f1 x.f4.f2 x.f4.f3 x.f4.f4 x.f4.f5 x.f4.f6)
  unfold frS
  omega
def joinP (kp : Nat → Bool) : Nat → List S30 → List Int
  | _, [] => []
  | i, x :: t => (if kp i = true then frS x else []) ++ joinP kp (i + 1) t
theorem chkL_all : ∀ {l : List S30}, chkL30 l = 0 → ∀ x ∈ l, chk30 x = 0
  | [], _, x, hx => by cases hx
  | y :: t, h, x, hx => by
    unfold chkL30 at h
    by_cases hz : chk30 y = 0
    · rw [if_pos hz] at h
      rcases List.mem_cons.1 hx with rfl | hx
      · exact hz
      · exact chkL_all h x hx
    · rw [if_neg hz] at h
      exact absurd h hz
theorem wrP_eq (k : Nat) (hk : 2000 ≤ k) (kp : Nat → Bool) : ∀ (l : List S30) (i : Nat) (out : List Int), (∀ x ∈ l, chk30 x = 0) → (∀ x ∈ l, zS30 x) → out.length + 150 * l.length ≤ 1000000 → wrP k kp i l out = some (out ++ joinP kp i l, 0)
  | [], i, out, _, _, _ => by
    unfold wrP joinP
    rw [List.append_nil]
  | x :: t, i, out, h1, h2, h3 => by
    unfold wrP joinP
    rw [List.length_cons] at h3
    have hx := h1 x List.mem_cons_self
    have hl := frS_len x
    by_cases hq : kp i = true
    · rw [if_pos hq, if_pos hq, append_eq k hk out (by omega) x.f3 (zS_okE (h2 x List.mem_cons_self)), if_pos (show chkE _ _ _ _ _ _ _ _ _ _ _ _ _ = 0 from hx), Option.bind_some]
      dsimp only
      rw [if_pos rfl, wrP_eq k hk kp t (i + 1) _ (fun y hy => h1 y (List.mem_cons_of_mem _ hy)) (fun y hy => h2 y (List.mem_cons_of_mem _ hy)) (by rw [List.length_append]; unfold frS at hl; omega), List.append_assoc]
      rfl
    · rw [if_neg hq, if_neg hq, wrP_eq k hk kp t (i + 1) _ (fun y hy => h1 y (List.mem_cons_of_mem _ hy)) (fun y hy => h2 y (List.mem_cons_of_mem _ hy)) (by omega), List.nil_append]
/-- What is written of a replica. -/
def writP (kp : Nat → Bool) (d : Int) (l : List S30) : List Int × Int := if rchkP d l = 0 then (joinP kp 0 l, 0) else ([], rchkP d l)
theorem wrA_eq (k : Nat) (hk : 2000 ≤ k) (kp : Nat → Bool) (d : Int) (l : List S30) (hz : ∀ x ∈ l, zS30 x) : wrA k kp d l = some (writP kp d l) := by
  unfold wrA writP
  rw [if_pos (fun e he => zS_okE30 (hz e he))]
  by_cases h : rchkP d l = 0
  · obtain ⟨_, h5, hc, _⟩ := rchk_ord h
    rw [if_pos h, if_pos h, wrP_eq k hk kp l 0 [] (chkL_all hc) hz (by simp; omega), List.nil_append]
  · rw [if_neg h, if_neg h]
theorem rfr_eq (k : Nat) (hk : 2000 ≤ k) (x : S30) (hz : zS30 x) (hc : chk30 x = 0) : dancestudioref58_frame.f k x.f0.f0 x.f0.f1 x.f1 x.f2.f0 x.f2.f1 x.f3 x.f4.f0 x.f4.f1 x.f4.f2 x.f4.f3 x.f4.f4 x.f4.f5 x.f4.f6 = some (frS x) := by
  unfold dancestudioref58_frame.f
  have hl := putB_len x.f0.f0 x.f0.f1 x.f1 x.f2.f0 x.f2.f1 x.f3 x.f4.f0 x.f4.f1 x.f4.f2 x.f4.f3 x.f4.f4 x.f4.f5 x.f4.f6
  rw [rput_edit_eq k (by omega) x.f3 (zS_okE hz), Option.bind_some, if_pos (show chkE _ _ _ _ _ _ _ _ _ _ _ _ _ = 0 from hc)]
  dsimp only
  rw [rframe_eq k _ (by omega) (by omega), Option.bind_some]
  rfl
theorem rwr_l0 (d : Int) (l : List S30) (hl : l.length ≤ 600) (h1 : ∀ x ∈ l, chk30 x = 0) (h2 : ∀ x ∈ l, zS30 x) : ∀ (m i k : Nat) (out : List Int), l.length - i = m → i ≤ l.length → m + 2001 ≤ k → out.length ≤ 150 * i → dancestudioref58_Write.l0 k out (i : Int) d l = some (out ++ joinP (fun _ => true) i (l.drop i), 0)
  | 0, i, k, out, hm, hi, hk, ho => by
    obtain ⟨k, rfl⟩ : ∃ j, k = j + 1 := ⟨k - 1, by omega⟩
    unfold dancestudioref58_Write.l0
    rw [if_neg (by omega), List.drop_of_length_le (by omega)]
    unfold joinP
    rw [List.append_nil]
  | m + 1, i, k, out, hm, hi, hk, ho => by
    obtain ⟨k, rfl⟩ : ∃ j, k = j + 1 := ⟨k - 1, by omega⟩
    have hlt : i < l.length := by omega
    have hf := frS_len l[i]
    unfold dancestudioref58_Write.l0
    rw [if_pos (by omega), if_pos (by omega), rd30_at hlt, rfr_eq k (by omega) l[i] (h2 _ (List.getElem_mem hlt)) (h1 _ (List.getElem_mem hlt)), Option.bind_some, if_pos (by omega), wrap_nat (by omega), rwr_l0 d l hl h1 h2 m (i + 1) k _ (by omega) (by omega) (by omega) (by rw [List.length_append]; omega), List.drop_eq_getElem_cons hlt, joinP, if_pos rfl, List.append_assoc]
theorem rwrite_eq (k : Nat) (d : Int) (l : List S30) (hl : l.length ≤ 600) (hz : ∀ x ∈ l, zS30 x) (hk : 5000 ≤ k) : dancestudioref58_Write.f k d l = some (writP (fun _ => true) d l) := by
  unfold dancestudioref58_Write.f writP
  rw [rchk_eq k d l (by omega) (by omega), Option.bind_some]
  by_cases h : rchkP d l = 0
  · obtain ⟨_, h5, hc, _⟩ := rchk_ord h
    have h0 := rwr_l0 d l hl (chkL_all hc) hz l.length 0 k [] (by omega) (by omega) (by omega) (by simp)
    rw [List.drop_zero, List.nil_append] at h0
    rw [if_pos h, if_pos h]
    exact h0
  · rw [if_neg h, if_neg h]
/-- Two edits of a list have one sign. -/
def smS (l : List S30) (x i : Nat) : Bool := (rd_T30 l (x : Int)).f2.f0 == (rd_T30 l (i : Int)).f2.f0 && ((rd_T30 l (x : Int)).f2.f1 == (rd_T30 l (i : Int)).f2.f1)
def flS (l : List S30) (i : Nat) (g : Nat → Bool) : Nat → Nat → Bool
  | 0, _ => true
  | m + 1, x => (!smS l x i || g x) && flS l i g m (x + 1)
def keepR (l : List S30) (i : Nat) : Bool := flS l i (fun x => decide (i ≤ x)) l.length 0 || flS l i (fun x => decide (x ≤ i)) l.length 0
theorem rcp_l1 (d : Int) (l : List S30) (hl : l.length ≤ 600) (out : List Int) (i : Nat) (hi : i < l.length) (hz : zS30 l[i]) (hc : chk30 l[i] = 0) (ho : out.length ≤ 1000000) : ∀ (m x k : Nat) (a b : Bool), l.length - x = m → x ≤ l.length → 2000 ≤ k →
    dancestudioref58_Compact.l1 (k + m + 1) out (i : Int) a b (x : Int) d l = dancestudioref58_Compact.l0 k (out ++ (if (a && flS l i (fun x => decide (i ≤ x)) m x || b && flS l i (fun x => decide (x ≤ i)) m x) = true then frS l[i] else [])) ((i + 1 : Nat) : Int) d l
  | 0, x, k, a, b, hm, hx, hk => by
    have hf := frS_len l[i]
    unfold dancestudioref58_Compact.l1
    rw [if_neg (by omega)]
    unfold flS
    rw [rd30_at hi]
    cases a <;> cases b
    · rw [if_neg (show ¬ (false = true) by decide), if_neg (show ¬ (false = true) by decide)]
      rw [wrap_nat (by omega)]
      simp
    · rw [if_neg (show ¬ (false = true) by decide), if_pos rfl, if_pos (by omega), if_pos (by omega), rfr_eq k hk l[i] hz hc, Option.bind_some, if_pos (by omega), wrap_nat (by omega)]
      simp
    · rw [if_pos rfl, if_pos (by omega), if_pos (by omega), rfr_eq k hk l[i] hz hc, Option.bind_some, if_pos (by omega), wrap_nat (by omega)]
      simp
    · rw [if_pos rfl, if_pos (by omega), if_pos (by omega), rfr_eq k hk l[i] hz hc, Option.bind_some, if_pos (by omega), wrap_nat (by omega)]
      simp
  | m + 1, x, k, a, b, hm, hx, hk => by
    have hlt : x < l.length := by omega
    have ih := fun a b => rcp_l1 d l hl out i hi hz hc ho m (x + 1) k a b (by omega) (by omega) hk
    rw [show k + (m + 1) + 1 = (k + m + 1) + 1 by omega]
    unfold dancestudioref58_Compact.l1
    rw [if_pos (by omega), if_pos (by omega), if_pos (by omega), if_pos (by omega), wrap_nat (by omega)]
    have e1 : decide ((x : Int) ≥ (i : Int)) = decide (i ≤ x) := by simp
    have e2 : decide ((x : Int) ≤ (i : Int)) = decide (x ≤ i) := by simp
    unfold flS
    show (if smS l x i = true then _ else _) = _
    cases hs : smS l x i
    · rw [if_neg (show ¬ (false = true) by decide), ih]
      simp only [Bool.not_false, Bool.true_or, Bool.true_and]
    · rw [if_pos rfl, e1, e2]
      simp only [Bool.not_true, Bool.false_or]
      cases a <;> cases b
      · rw [if_neg (show ¬ (false = true) by decide), if_neg (show ¬ (false = true) by decide), ih]
        simp only [Bool.false_and, Bool.or_self]
      · rw [if_neg (show ¬ (false = true) by decide), if_pos rfl, ih]
        simp only [Bool.false_and, Bool.false_or, Bool.true_and]
      · rw [if_pos rfl, if_neg (show ¬ (false = true) by decide), ih]
        simp only [Bool.false_and, Bool.or_false, Bool.true_and]
      · rw [if_pos rfl, if_pos rfl, ih]
        simp only [Bool.true_and]
theorem rcp_l0 (d : Int) (l : List S30) (hl : l.length ≤ 600) (h1 : ∀ x ∈ l, chk30 x = 0) (h2 : ∀ x ∈ l, zS30 x) : ∀ (m i k : Nat) (out : List Int), l.length - i = m → i ≤ l.length → m * (l.length + 2) + 2001 ≤ k → out.length ≤ 150 * i → dancestudioref58_Compact.l0 k out (i : Int) d l = some (out ++ joinP (keepR l) i (l.drop i), 0)
  | 0, i, k, out, hm, hi, hk, ho => by
    obtain ⟨k, rfl⟩ : ∃ j, k = j + 1 := ⟨k - 1, by omega⟩
    unfold dancestudioref58_Compact.l0
    rw [if_neg (by omega), List.drop_of_length_le (by omega)]
    unfold joinP
    rw [List.append_nil]
  | m + 1, i, k, out, hm, hi, hk, ho => by
    rw [Nat.add_mul, Nat.one_mul] at hk
    obtain ⟨k, rfl⟩ : ∃ j, k = (j + l.length + 1) + 1 := ⟨k - (l.length + 2), by omega⟩
    have hlt : i < l.length := by omega
    have hf := frS_len l[i]
    unfold dancestudioref58_Compact.l0
    have h0 := rcp_l1 d l hl out i hlt (h2 _ (List.getElem_mem hlt)) (h1 _ (List.getElem_mem hlt)) (by omega) l.length 0 k true true (by omega) (by omega) (by omega)
    rw [show ((0 : Nat) : Int) = 0 from rfl] at h0
    rw [if_pos (by omega), h0, rcp_l0 d l hl h1 h2 m (i + 1) k _ (by omega) (by omega) (by omega) (by rw [List.length_append]; split <;> first | omega | (rw [List.length_nil]; omega)), List.drop_eq_getElem_cons hlt, joinP, List.append_assoc]
    simp only [Bool.true_and, keepR]
    rfl
theorem rcomp_eq (k : Nat) (d : Int) (l : List S30) (hl : l.length ≤ 40) (hz : ∀ x ∈ l, zS30 x) (hk : 5000 ≤ k) : dancestudioref58_Compact.f k d l = some (writP (keepR l) d l) := by
  unfold dancestudioref58_Compact.f writP
  rw [rchk_eq k d l (by omega) (by omega), Option.bind_some]
  by_cases h : rchkP d l = 0
  · obtain ⟨_, h5, hc, _⟩ := rchk_ord h
    have hmul : l.length * (l.length + 2) ≤ 40 * 42 := Nat.mul_le_mul hl (by omega)
    have h0 := rcp_l0 d l (by omega) (chkL_all hc) hz l.length 0 k [] (by omega) (by omega) (by omega) (by simp)
    rw [List.drop_zero, List.nil_append] at h0
    rw [if_pos h, if_pos h]
    exact h0
  · rw [if_neg h, if_neg h]
end Go.Proofs.Yteopkkoblbmggaa.P
end

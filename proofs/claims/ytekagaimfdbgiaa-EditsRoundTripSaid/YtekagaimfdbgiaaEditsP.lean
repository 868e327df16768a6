/- What edits.Check, edits.Put and edits.Take say, as plain functions of the numbers; no condition. -/
import Derived.Test.YtekagaimfdbgiaaEnc
import Derived.Test.YtekagaimfdbgiaaSymP
import Derived.Test.YtekagaimfdbgiaaTake
import Derived.Test.YtekagaimfdbgiaaP10
set_option linter.unusedVariables false
set_option linter.unusedSimpArgs false
namespace Go.Proofs.Ytekagaimfdbgiaa.P
open Go.RowKit Go.Proofs.YtekagaimfdbgiaaW.PrintWords Go.Proofs.YtekagaimfdbgiaaW.PrintLast Go.Proofs.YtekagaimfdbgiaaW.PrintMore
def valP (c d : Int) : Bool := decide (1 ≤ c ∧ c ≤ 1000000 ∧ 1 ≤ d ∧ d ≤ 64)
def lessP (a b c d : Int) : Bool := decide (a < c ∨ a = c ∧ b < d)
theorem valid_eq (c d : Int) : edits_valid.f c d = some (valP c d) := by
  unfold edits_valid.f valP
  by_cases h1 : 1 ≤ c <;> by_cases h2 : c ≤ 1000000 <;> by_cases h3 : 1 ≤ d <;> by_cases h4 : d ≤ 64 <;> simp [h1, h2, h3, h4, GE.ge]
theorem eless_eq (a b c d : Int) : edits_Less.f a b c d = some (lessP a b c d) := by
  unfold edits_Less.f lessP
  by_cases h1 : a < c
  · simp [h1]
  · by_cases h2 : a = c <;> simp [h1, h2]
/-- The error of Check. -/
def chkE (a0 a1 a2 a3 a4 : Int) (a5 : Bool) (a6 a7 a8 a9 a10 a11 a12 : Int) : Int :=
  if valP a0 a1 = false ∨ valP a3 a4 = false ∨ lessP a0 a1 a3 a4 = true then 43
  else if a2 < 0 ∨ 12 ≤ a2 then 33
  else if a5 = true then (if a6 = 0 ∧ a7 = 0 ∧ a8 = 0 ∧ a9 = 0 ∧ a10 = 0 ∧ a11 = 0 ∧ a12 = 0 then 0 else 2)
  else chkP a6 a7 a8 a9 a10 a11 a12
theorem chk_j0 (j : Nat) (x : Bool) (a0 a1 a2 a3 a4 : Int) (a5 : Bool) (a6 a7 a8 a9 a10 a11 a12 : Int) :
    edits_Check.j0 (j + 4) x a0 a1 a2 a3 a4 a5 a6 a7 a8 a9 a10 a11 a12 = some (if x = true then 43 else if a2 < 0 ∨ 12 ≤ a2 then 33
      else if a5 = true then (if a6 = 0 ∧ a7 = 0 ∧ a8 = 0 ∧ a9 = 0 ∧ a10 = 0 ∧ a11 = 0 ∧ a12 = 0 then 0 else 2) else chkP a6 a7 a8 a9 a10 a11 a12) := by
  simp only [edits_Check.j0, edits_Check.j1, symCheck_eq, Option.bind_some]
  cases x
  · simp only [Bool.false_eq_true, if_false, if_true]
    by_cases h1 : a2 < 0
    · rw [if_pos h1, if_pos (Or.inl h1)]
    · rw [if_neg h1]
      by_cases h2 : 12 ≤ a2
      · rw [if_pos (by simpa using h2), if_pos (Or.inr h2)]
      · rw [if_neg (by simpa using h2), if_neg (show ¬ (a2 < 0 ∨ 12 ≤ a2) by omega)]
        cases a5
        · simp
        · simp only [if_true]
          by_cases h : a6 = 0 ∧ a7 = 0 ∧ a8 = 0 ∧ a9 = 0 ∧ a10 = 0 ∧ a11 = 0 ∧ a12 = 0
          · obtain ⟨rfl, rfl, rfl, rfl, rfl, rfl, rfl⟩ := h
            rfl
          · rw [if_neg h, if_pos]
            simp only [Bool.or_eq_true, Bool.not_eq_true', beq_eq_false_iff_ne]
            by_cases b1 : a6 = 0
            · by_cases b2 : a7 = 0
              · by_cases b3 : a8 = 0
                · by_cases b4 : a9 = 0
                  · by_cases b5 : a10 = 0
                    · by_cases b6 : a11 = 0
                      · by_cases b7 : a12 = 0
                        · exact absurd ⟨b1, b2, b3, b4, b5, b6, b7⟩ h
                        · exact Or.inr (Or.inr (Or.inr (Or.inr (Or.inr (Or.inr b7)))))
                      · exact Or.inr (Or.inr (Or.inr (Or.inr (Or.inr (Or.inl b6)))))
                    · exact Or.inr (Or.inr (Or.inr (Or.inr (Or.inl b5))))
                  · exact Or.inr (Or.inr (Or.inr (Or.inl b4)))
                · exact Or.inr (Or.inr (Or.inl b3))
              · exact Or.inr (Or.inl b2)
            · exact Or.inl b1
  · simp
theorem check_eq (j : Nat) (a0 a1 a2 a3 a4 : Int) (a5 : Bool) (a6 a7 a8 a9 a10 a11 a12 : Int) :
    edits_Check.f (j + 4) a0 a1 a2 a3 a4 a5 a6 a7 a8 a9 a10 a11 a12 = some (chkE a0 a1 a2 a3 a4 a5 a6 a7 a8 a9 a10 a11 a12) := by
  unfold edits_Check.f chkE
  simp only [valid_eq, eless_eq, Option.bind_some, chk_j0]
  cases h1 : valP a0 a1 <;> cases h2 : valP a3 a4 <;> cases h3 : lessP a0 a1 a3 a4 <;> simp
theorem ints_l0 : ∀ (m : Nat) (out l : List Int) (i k : Nat), l.length - i = m → i ≤ l.length → l.length < 1000 → okZs l → out.length + 10 * m + 20 < 140737488355328 → m + 12 ≤ k →
    edits_ints.l0 k out l (l.length : Int) (i : Int) = some (out ++ encs (l.drop i))
  | 0, out, l, i, k, hm, hi, hs, hl, ho, hk => by
    obtain ⟨k, rfl⟩ : ∃ q, k = q + 1 := ⟨k - 1, by omega⟩
    simp only [edits_ints.l0]
    rw [if_neg (by omega), List.drop_eq_nil_of_le (by omega)]
    simp [encs]
  | m + 1, out, l, i, k, hm, hi, hs, hl, ho, hk => by
    obtain ⟨k, rfl⟩ : ∃ q, k = q + 1 := ⟨k - 1, by omega⟩
    obtain ⟨q, rfl⟩ : ∃ q, k = 11 + q := ⟨k - 11, by omega⟩
    have hi' : i < l.length := by omega
    have hz : okZ l[i] := hl _ (List.getElem_mem hi')
    simp only [edits_ints.l0]
    have e : rd l (i : Int) = l[i] := by unfold rd; rw [Int.toNat_natCast, getD_at hi']
    rw [if_pos (by omega), if_pos (by omega), if_pos (by omega), e, putInt_eq q out l[i] hz (by omega), Option.bind_some, wrap_in' _ (by omega) (by omega)]
    have hlen := enc_len l[i]
    rw [show ((i : Int) + 1) = ((i + 1 : Nat) : Int) by omega, ints_l0 m (out ++ enc l[i]) l (i + 1) (11 + q) (by omega) (by omega) hs hl (by rw [List.length_append]; omega) (by omega)]
    rw [List.drop_eq_getElem_cons hi', encs, List.append_assoc]
theorem ints_eq (k : Nat) (out l : List Int) (hs : l.length ≤ 20) (hl : okZs l) (ho : out.length < 1000) (hk : 40 ≤ k) : edits_ints.f k out l = some (out ++ encs l) := by
  unfold edits_ints.f
  have := ints_l0 l.length out l 0 k (by omega) (by omega) (by omega) hl (by omega) (by omega)
  rw [List.drop_zero] at this
  exact this
def headN (a0 a1 a2 a3 a4 : Int) (a5 : Bool) : List Int := [a0, a1, a2, a3, a4, if a5 = true then 1 else 0]
def tailN (a5 : Bool) (a6 a7 a8 a9 a10 a11 a12 : Int) : List Int := if a5 = true then [] else [a6, a7, a8, a9, a10, a11, a12]
/-- The bytes of an edit. -/
def putB (a0 a1 a2 a3 a4 : Int) (a5 : Bool) (a6 a7 a8 a9 a10 a11 a12 : Int) : List Int := encs (headN a0 a1 a2 a3 a4 a5) ++ encs (tailN a5 a6 a7 a8 a9 a10 a11 a12)
def okE (a0 a1 a2 a3 a4 : Int) (a6 a7 a8 a9 a10 a11 a12 : Int) : Prop := okZ a0 ∧ okZ a1 ∧ okZ a2 ∧ okZ a3 ∧ okZ a4 ∧ okZ a6 ∧ okZ a7 ∧ okZ a8 ∧ okZ a9 ∧ okZ a10 ∧ okZ a11 ∧ okZ a12
theorem head_ok {a0 a1 a2 a3 a4 a6 a7 a8 a9 a10 a11 a12 : Int} (a5 : Bool) (h : okE a0 a1 a2 a3 a4 a6 a7 a8 a9 a10 a11 a12) : okZs (headN a0 a1 a2 a3 a4 a5) := by
  obtain ⟨h0, h1, h2, h3, h4, -⟩ := h
  intro n hn
  simp only [headN, List.mem_cons, List.not_mem_nil, or_false] at hn
  rcases hn with rfl | rfl | rfl | rfl | rfl | rfl <;> first | assumption | (split <;> (unfold okZ; omega))
theorem tail_ok {a0 a1 a2 a3 a4 a6 a7 a8 a9 a10 a11 a12 : Int} (a5 : Bool) (h : okE a0 a1 a2 a3 a4 a6 a7 a8 a9 a10 a11 a12) : okZs (tailN a5 a6 a7 a8 a9 a10 a11 a12) := by
  obtain ⟨-, -, -, -, -, h6, h7, h8, h9, h10, h11, h12⟩ := h
  intro n hn
  cases a5
  · simp only [tailN, Bool.false_eq_true, if_false, List.mem_cons, List.not_mem_nil, or_false] at hn
    rcases hn with rfl | rfl | rfl | rfl | rfl | rfl | rfl <;> assumption
  · simp [tailN] at hn
theorem putB_ok {a0 a1 a2 a3 a4 a6 a7 a8 a9 a10 a11 a12 : Int} (a5 : Bool) (h : okE a0 a1 a2 a3 a4 a6 a7 a8 a9 a10 a11 a12) : okB (putB a0 a1 a2 a3 a4 a5 a6 a7 a8 a9 a10 a11 a12) := by
  intro x hx
  rcases List.mem_append.mp hx with hx | hx
  · exact encs_ok _ (head_ok a5 h) x hx
  · exact encs_ok _ (tail_ok a5 h) x hx
theorem putB_len (a0 a1 a2 a3 a4 : Int) (a5 : Bool) (a6 a7 a8 a9 a10 a11 a12 : Int) : (putB a0 a1 a2 a3 a4 a5 a6 a7 a8 a9 a10 a11 a12).length ≤ 130 := by
  have h1 := (encs_len (headN a0 a1 a2 a3 a4 a5)).2
  have h2 := (encs_len (tailN a5 a6 a7 a8 a9 a10 a11 a12)).2
  have l1 : (headN a0 a1 a2 a3 a4 a5).length = 6 := rfl
  have l2 : (tailN a5 a6 a7 a8 a9 a10 a11 a12).length ≤ 7 := by unfold tailN; split <;> simp
  unfold putB
  rw [List.length_append]
  omega
theorem put_edit_eq (k : Nat) (hk : 40 ≤ k) {a0 a1 a2 a3 a4 a6 a7 a8 a9 a10 a11 a12 : Int} (a5 : Bool) (h : okE a0 a1 a2 a3 a4 a6 a7 a8 a9 a10 a11 a12) :
    edits_Put.f k a0 a1 a2 a3 a4 a5 a6 a7 a8 a9 a10 a11 a12 = some (if chkE a0 a1 a2 a3 a4 a5 a6 a7 a8 a9 a10 a11 a12 = 0 then (putB a0 a1 a2 a3 a4 a5 a6 a7 a8 a9 a10 a11 a12, 0) else ([], chkE a0 a1 a2 a3 a4 a5 a6 a7 a8 a9 a10 a11 a12)) := by
  obtain ⟨h0, h1, h2, h3, h4, h6, h7, h8, h9, h10, h11, h12⟩ := h
  have z0 : okZ 0 := by unfold okZ; omega
  have z1 : okZ 1 := by unfold okZ; omega
  have e1 := ints_eq k [] [a0, a1, a2, a3, a4] (by simp) (by intro n hn; simp only [List.mem_cons, List.not_mem_nil, or_false] at hn; rcases hn with rfl | rfl | rfl | rfl | rfl <;> assumption) (by simp) hk
  have hlen := (encs_len [a0, a1, a2, a3, a4]).2
  have hlen' : (encs [a0, a1, a2, a3, a4]).length ≤ 50 := hlen
  have e2 := ints_eq k (encs [a0, a1, a2, a3, a4]) [1] (by simp) (by intro n hn; simp only [List.mem_cons, List.not_mem_nil, or_false] at hn; rw [hn]; exact z1) (by omega) hk
  have e3 := ints_eq k (encs [a0, a1, a2, a3, a4]) [0, a6, a7, a8, a9, a10, a11, a12] (by simp) (by intro n hn; simp only [List.mem_cons, List.not_mem_nil, or_false] at hn; rcases hn with rfl | rfl | rfl | rfl | rfl | rfl | rfl | rfl <;> assumption) (by omega) hk
  unfold edits_Put.f
  obtain ⟨j, rfl⟩ : ∃ j, k = j + 4 := ⟨k - 4, by omega⟩
  rw [check_eq, Option.bind_some]
  by_cases hc : chkE a0 a1 a2 a3 a4 a5 a6 a7 a8 a9 a10 a11 a12 = 0
  · rw [if_pos hc, if_pos hc, e1, Option.bind_some, List.nil_append]
    cases a5
    · simp only [Bool.false_eq_true, if_false]
      rw [e3, Option.bind_some]
      simp [putB, headN, tailN, encs, List.append_assoc]
    · simp only [if_true]
      rw [e2, Option.bind_some]
      simp [putB, headN, tailN, encs, List.append_assoc]
  · rw [if_neg hc, if_neg hc]
theorem tks_eq (k : Nat) : ∀ (n : Nat) (b : List Int), b.length < 140737488355328 → okB b → b.length + 14 ≤ k → tks k n b = some (dks n b)
  | 0, b, _, _, _ => rfl
  | n + 1, b, hl, hb, hk => by
    have hd := dec_k b
    simp only [tks, dks, takeInt_eq k b hl hb hk, Option.bind_some]
    by_cases h1 : (dec b).2.2 = 0
    · have hdl : (b.drop (dec b).2.1.toNat).length ≤ b.length := by rw [List.length_drop]; omega
      rw [if_pos h1, if_pos h1, if_pos hd.1, if_pos hd.2, tks_eq k n _ (by omega) (okB_drop _ _ hb) (by omega), Option.bind_some]
    · rw [if_neg h1, if_neg h1]
abbrev E14 := Int × Int × Int × Int × Int × Bool × Int × Int × Int × Int × Int × Int × Int × Int
def errE (e : Int) : E14 := (0, 0, 0, 0, 0, false, 0, 0, 0, 0, 0, 0, 0, e)
def endP (a0 a1 a2 a3 a4 : Int) (a5 : Bool) (a6 a7 a8 a9 a10 a11 a12 : Int) (rest : List Int) : E14 :=
  if rest.length = 0 then (if chkE a0 a1 a2 a3 a4 a5 a6 a7 a8 a9 a10 a11 a12 = 0 then (a0, a1, a2, a3, a4, a5, a6, a7, a8, a9, a10, a11, a12, 0) else errE (chkE a0 a1 a2 a3 a4 a5 a6 a7 a8 a9 a10 a11 a12)) else errE 2
theorem end_eq (j : Nat) (a0 a1 a2 a3 a4 : Int) (a5 : Bool) (a6 a7 a8 a9 a10 a11 a12 : Int) (rest : List Int) :
    takeEnd (j + 4) a0 a1 a2 a3 a4 a5 a6 a7 a8 a9 a10 a11 a12 rest = some (endP a0 a1 a2 a3 a4 a5 a6 a7 a8 a9 a10 a11 a12 rest) := by
  unfold takeEnd endP
  rw [check_eq, Option.bind_some]
  split
  · split <;> rfl
  · rfl
/-- What Take says. -/
def takeP (b : List Int) : E14 :=
  if (dks 6 b).2.2 = 0 then
    (if (dks 6 b).1.getD 5 0 = 1 then endP ((dks 6 b).1.getD 0 0) ((dks 6 b).1.getD 1 0) ((dks 6 b).1.getD 2 0) ((dks 6 b).1.getD 3 0) ((dks 6 b).1.getD 4 0) true 0 0 0 0 0 0 0 (dks 6 b).2.1
    else if (dks 6 b).1.getD 5 0 = 0 then
      (if (dks 7 (dks 6 b).2.1).2.2 = 0 then endP ((dks 6 b).1.getD 0 0) ((dks 6 b).1.getD 1 0) ((dks 6 b).1.getD 2 0) ((dks 6 b).1.getD 3 0) ((dks 6 b).1.getD 4 0) false ((dks 7 (dks 6 b).2.1).1.getD 0 0) ((dks 7 (dks 6 b).2.1).1.getD 1 0) ((dks 7 (dks 6 b).2.1).1.getD 2 0) ((dks 7 (dks 6 b).2.1).1.getD 3 0) ((dks 7 (dks 6 b).2.1).1.getD 4 0) ((dks 7 (dks 6 b).2.1).1.getD 5 0) ((dks 7 (dks 6 b).2.1).1.getD 6 0) (dks 7 (dks 6 b).2.1).2.1
      else errE (dks 7 (dks 6 b).2.1).2.2)
    else errE 2)
  else errE (dks 6 b).2.2
theorem take_eq (k : Nat) (b : List Int) (hl : b.length < 140737488355328) (hb : okB b) (hk : b.length + 14 ≤ k) : edits_Take.f k b = some (takeP b) := by
  have e1 := tks_eq k 6 b hl hb hk
  obtain ⟨j, rfl⟩ : ∃ j, k = j + 4 := ⟨k - 4, by omega⟩
  unfold edits_Take.f takeP
  rw [e1, Option.bind_some]
  by_cases h1 : (dks 6 b).2.2 = 0
  · obtain ⟨i1, i2, i3⟩ := dks_inv 6 b (dks 6 b).1 (dks 6 b).2.1 hb (by rw [← h1])
    have hr : (dks 6 b).2.1.length ≤ b.length := by have := congrArg List.length i1; rw [List.length_append] at this; omega
    have hrb : okB (dks 6 b).2.1 := fun x hx => hb x (by rw [i1]; exact List.mem_append_right _ hx)
    have e2 := tks_eq (j + 4) 7 (dks 6 b).2.1 (by omega) hrb (by omega)
    rw [if_pos h1, if_pos h1]
    split
    · rw [end_eq]
    · split
      · rw [e2, Option.bind_some]
        split
        · rw [end_eq]
        · rfl
      · rfl
  · rw [if_neg h1, if_neg h1]; rfl
/-! ### an edit and its bytes -/
theorem take_put {a0 a1 a2 a3 a4 a6 a7 a8 a9 a10 a11 a12 : Int} (a5 : Bool) (h : okE a0 a1 a2 a3 a4 a6 a7 a8 a9 a10 a11 a12) (hc : chkE a0 a1 a2 a3 a4 a5 a6 a7 a8 a9 a10 a11 a12 = 0) (more : List Int) :
    takeP (putB a0 a1 a2 a3 a4 a5 a6 a7 a8 a9 a10 a11 a12 ++ more) = if more.length = 0 then (a0, a1, a2, a3, a4, a5, a6, a7, a8, a9, a10, a11, a12, 0) else errE 2 := by
  have e1 := dks_encs (headN a0 a1 a2 a3 a4 a5) (encs (tailN a5 a6 a7 a8 a9 a10 a11 a12) ++ more) (head_ok a5 h)
  have e2 := dks_encs (tailN a5 a6 a7 a8 a9 a10 a11 a12) more (tail_ok a5 h)
  rw [show (headN a0 a1 a2 a3 a4 a5).length = 6 from rfl, ← List.append_assoc] at e1
  unfold takeP putB
  cases a5
  · rw [show (tailN false a6 a7 a8 a9 a10 a11 a12).length = 7 from rfl] at e2
    simp only [e1, e2]
    simp only [headN, tailN, Bool.false_eq_true, if_false, if_true]
    simp only [List.getD_cons_zero, List.getD_cons_succ, Int.reduceEq, if_false, if_true, endP, hc]
  · rw [e1]
    have hz : a6 = 0 ∧ a7 = 0 ∧ a8 = 0 ∧ a9 = 0 ∧ a10 = 0 ∧ a11 = 0 ∧ a12 = 0 := by
      unfold chkE at hc
      split at hc
      · cases hc
      · split at hc
        · cases hc
        · simp only [if_true] at hc
          split at hc
          · assumption
          · cases hc
    obtain ⟨rfl, rfl, rfl, rfl, rfl, rfl, rfl⟩ := hz
    simp only [headN, tailN, encs, List.nil_append, if_true, List.getD_cons_zero, List.getD_cons_succ, endP, hc]
theorem take_cut {a0 a1 a2 a3 a4 a6 a7 a8 a9 a10 a11 a12 : Int} (a5 : Bool) (h : okE a0 a1 a2 a3 a4 a6 a7 a8 a9 a10 a11 a12) (c : Nat) (hcl : c < (putB a0 a1 a2 a3 a4 a5 a6 a7 a8 a9 a10 a11 a12).length) :
    takeP ((putB a0 a1 a2 a3 a4 a5 a6 a7 a8 a9 a10 a11 a12).take c) = errE 13 := by
  have h6 : (headN a0 a1 a2 a3 a4 a5).length = 6 := rfl
  by_cases h1 : c < (encs (headN a0 a1 a2 a3 a4 a5)).length
  · have e1 := dks_cut (headN a0 a1 a2 a3 a4 a5) c (head_ok a5 h) h1
    rw [h6] at e1
    unfold takeP putB
    rw [List.take_append_of_le_length (by omega), e1]
    rfl
  · have e0 : (putB a0 a1 a2 a3 a4 a5 a6 a7 a8 a9 a10 a11 a12).take c = encs (headN a0 a1 a2 a3 a4 a5) ++ (encs (tailN a5 a6 a7 a8 a9 a10 a11 a12)).take (c - (encs (headN a0 a1 a2 a3 a4 a5)).length) := by
      unfold putB; rw [List.take_append, List.take_of_length_le (by omega)]
    unfold putB at hcl
    rw [List.length_append] at hcl
    have e1 := dks_encs (headN a0 a1 a2 a3 a4 a5) ((encs (tailN a5 a6 a7 a8 a9 a10 a11 a12)).take (c - (encs (headN a0 a1 a2 a3 a4 a5)).length)) (head_ok a5 h)
    have e2 := dks_cut (tailN a5 a6 a7 a8 a9 a10 a11 a12) (c - (encs (headN a0 a1 a2 a3 a4 a5)).length) (tail_ok a5 h) (by omega)
    rw [e0]
    unfold takeP
    rw [h6] at e1
    cases a5
    · rw [show (tailN false a6 a7 a8 a9 a10 a11 a12).length = 7 from rfl] at e2
      simp only [e1, e2]
      simp only [headN, Bool.false_eq_true, if_false, if_true]
      simp only [List.getD_cons_zero, List.getD_cons_succ, Int.reduceEq, if_false, if_true]
    · simp [tailN, encs] at hcl
      omega
end Go.Proofs.Ytekagaimfdbgiaa.P

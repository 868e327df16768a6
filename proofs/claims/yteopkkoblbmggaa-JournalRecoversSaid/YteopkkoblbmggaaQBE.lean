/- Texts of this claim in one: VRAddP, VRTakeP, VTakeInv, VRecP, PureJournalRecovers; no condition. -/
import Derived.Test.YteopkkoblbmggaaQAE
import Derived.Test.YteopkkoblbmggaaQAJ
import Derived.Test.YteopkkoblbmggaaQAI
import Derived.Test.YteopkkoblbmggaaQAS
import Derived.Test.YteopkkoblbmggaaQAT
import Derived.Test.YteopkkoblbmggaaQAU
import Derived.Test.YteopkkoblbmggaaQAV
import Derived.Test.YteopkkoblbmggaaQAW
import Derived.Test.YteopkkoblbmggaaQAN
import Derived.Test.YteopkkoblbmggaaQBD
import Derived.Test.YteopkkoblbmggaaQAZ
import Derived.Test.YteopkkoblbmggaaQBC
import Derived.Test.YteopkkoblbmggaaQAM
import Derived.Test.YteopkkoblbmggaaQAP
import Derived.Test.YteopkkoblbmggaaQBA
import Derived.Test.YteopkkoblbmggaaQBB
section
set_option linter.unusedVariables false
set_option linter.unusedSimpArgs false
namespace Go.Proofs.Yteopkkoblbmggaa.P
open Go.RowKit Go.Proofs.YteopkkoblbmggaaW.PrintWords Go.Proofs.YteopkkoblbmggaaW.PrintLast Go.Proofs.YteopkkoblbmggaaW.PrintMore
theorem Y2e {i : Nat} (h : i ≤ 2000000) : wrap64 ((i : Int) + 1) = ((i + 1 : Nat) : Int) := by unfold wrap64; omega
def fndB (x y : S30) : Bool := fndsE x && decide (y.f1 = x.f1 ∧ y.f2.f0 = x.f2.f0 ∧ y.f2.f1 = x.f2.f1)
theorem Y4P (y : S30) : fndB y y = fndsE y := by unfold fndB; simp
theorem Y3w (x y : S30) : YW.f x.f0.f0 x.f0.f1 x.f1 x.f2.f0 x.f2.f1 x.f3 x.f4.f0 x.f4.f1 x.f4.f2 x.f4.f3 x.f4.f4 x.f4.f5 x.f4.f6 y.f0.f0 y.f0.f1 y.f1 y.f2.f0 y.f2.f1 y.f3 y.f4.f0 y.f4.f1 y.f4.f2 y.f4.f3 y.f4.f4 y.f4.f5 y.f4.f6 = some (fndB x y) := by
  unfold YW.f
  by_cases h1 : x.f1 = y.f1
  · rw [if_pos h1]
    by_cases h3 : x.f3 = true
    · rw [if_pos h3]
      congr 1
      unfold fndB fndsE
      rw [h3]
      rfl
    · rw [if_neg h3]
      have h3' : x.f3 = false := by simpa using h3
      by_cases h4 : (x.f0.f0 == y.f2.f0 && (x.f0.f1 == y.f2.f1)) = true
      · rw [if_pos h4]
        congr 1
        rw [Bool.eq_iff_iff]
        simp only [Bool.and_eq_true, beq_iff_eq] at h4
        simp [fndB, fndsE, h3']
        omega
      · rw [if_neg h4]
        congr 1
        symm
        rw [← Bool.not_eq_true]
        simp only [Bool.and_eq_true, beq_iff_eq] at h4
        simp [fndB, fndsE, h3']
        omega
  · rw [if_neg h1]
    congr 1
    symm
    rw [← Bool.not_eq_true]
    simp [fndB]
    intro _ h
    exact absurd h.symm h1
theorem Y35 (l : List S30) (hl : l.length ≤ 1000000) (y : S30) : ∀ (m i k : Nat), l.length - i = m → i ≤ l.length → m + 1 ≤ k → Yf.l0 k l (i : Int) y.f0.f0 y.f0.f1 y.f1 y.f2.f0 y.f2.f1 y.f3 y.f4.f0 y.f4.f1 y.f4.f2 y.f4.f3 y.f4.f4 y.f4.f5 y.f4.f6 = some ((l.drop i).any (fun e => fndB e y))
  | 0, i, k, hm, hi, hk => by
    obtain ⟨k, rfl⟩ : ∃ j, k = j + 1 := ⟨k - 1, by omega⟩
    unfold Yf.l0
    rw [if_neg (by omega), List.drop_of_length_le (by omega)]
    rfl
  | m + 1, i, k, hm, hi, hk => by
    obtain ⟨k, rfl⟩ : ∃ j, k = j + 1 := ⟨k - 1, by omega⟩
    have hlt : i < l.length := by omega
    unfold Yf.l0
    rw [if_pos (by omega), if_pos (by omega), Y1J hlt, Y3w, Option.bind_some, Y2e (by omega), List.drop_eq_getElem_cons hlt, List.any_cons]
    cases fndB l[i] y
    · rw [if_neg (by decide), Y35 l hl y m (i + 1) k (by omega) (by omega) (by omega), Bool.false_or]
    · rw [if_pos rfl, Bool.true_or]
theorem Y34 (k : Nat) (l : List S30) (hl : l.length ≤ 1000000) (y : S30) (hk : l.length + 1 ≤ k) : Yf.f k l y.f0.f0 y.f0.f1 y.f1 y.f2.f0 y.f2.f1 y.f3 y.f4.f0 y.f4.f1 y.f4.f2 y.f4.f3 y.f4.f4 y.f4.f5 y.f4.f6 = some (kno30 l y) := by
  have := Y35 l hl y l.length 0 k (by omega) (by omega) hk
  rw [List.drop_zero] at this
  exact this
theorem Y58 (d : Int) (l : List S30) (hl : l.length ≤ 1000000) : ∀ (m i k : Nat), l.length - i = m → i ≤ l.length → m + l.length + 2 ≤ k → Y5.l2 k (i : Int) d l = some (if (l.drop i).all (kno30 l) = true then 0 else 6)
  | 0, i, k, hm, hi, hk => by
    obtain ⟨k, rfl⟩ : ∃ j, k = j + 1 := ⟨k - 1, by omega⟩
    unfold Y5.l2
    rw [if_neg (by omega), List.drop_of_length_le (by omega)]
    rfl
  | m + 1, i, k, hm, hi, hk => by
    obtain ⟨k, rfl⟩ : ∃ j, k = j + 1 := ⟨k - 1, by omega⟩
    have hlt : i < l.length := by omega
    unfold Y5.l2
    rw [if_pos (by omega), if_pos (by omega), Y1J hlt, Y34 k l hl l[i] (by omega), Option.bind_some, Y2e (by omega), List.drop_eq_getElem_cons hlt, List.all_cons]
    cases kno30 l l[i]
    · rw [if_neg (by decide), Bool.false_and, if_neg (by decide)]
    · rw [if_pos rfl, Y58 d l hl m (i + 1) k (by omega) (by omega) (by omega), Bool.true_and]
theorem Y57 (d : Int) (l : List S30) (hl : l.length ≤ 1000000) : ∀ (m i k : Nat), l.length - i = m → 1 ≤ i → (i ≤ l.length ∨ i = 1) → m + 2 * l.length + 3 ≤ k → Y5.l1 k (i : Int) d l = some (if ord30 (l.drop (i - 1)) = true then (if l.all (kno30 l) = true then 0 else 6) else 5)
  | 0, i, k, hm, h1, hi, hk => by
    obtain ⟨k, rfl⟩ : ∃ j, k = j + 1 := ⟨k - 1, by omega⟩
    unfold Y5.l1
    have ho : ord30 (l.drop (i - 1)) = true := by
      have : (l.drop (i - 1)).length ≤ 1 := by rw [List.length_drop]; omega
      match hd : l.drop (i - 1), this with
      | [], _ => rfl
      | [a], _ => rfl
      | a :: b :: t, h => simp at h
    rw [if_neg (by omega), ho, if_pos rfl]
    have := Y58 d l hl l.length 0 k (by omega) (by omega) (by omega)
    rw [List.drop_zero] at this
    exact this
  | m + 1, i, k, hm, h1, hi, hk => by
    obtain ⟨k, rfl⟩ : ∃ j, k = j + 1 := ⟨k - 1, by omega⟩
    have hlt : i < l.length := by omega
    obtain ⟨p, rfl⟩ : ∃ p, i = p + 1 := ⟨i - 1, by omega⟩
    have hlp : p < l.length := by omega
    unfold Y5.l1
    have hw : wrap64 (((p + 1 : Nat) : Int) - 1) = (p : Int) := by unfold wrap64; omega
    rw [hw, if_pos (by omega), if_pos (by omega), if_pos (by omega), if_pos (by omega), Y1J hlp, Y1J hlt, Y3m, Option.bind_some, Y2e (by omega), Nat.add_sub_cancel, List.drop_eq_getElem_cons hlp, List.drop_eq_getElem_cons hlt]
    show _ = some (if (Y2r l[p].f0 l[p + 1].f0 && ord30 (l[p + 1] :: l.drop (p + 1 + 1))) = true then _ else _)
    have hd := List.drop_eq_getElem_cons hlt
    rw [← hd]
    unfold Y2r
    cases lessP l[p].f0.f0 l[p].f0.f1 l[p + 1].f0.f0 l[p + 1].f0.f1
    · rw [if_neg (by decide), Bool.false_and, if_neg (by decide)]
    · rw [if_pos rfl, Bool.true_and, Y57 d l hl m (p + 1 + 1) k (by omega) (by omega) (by omega) (by omega)]
      rfl
theorem Y56 (d : Int) (l : List S30) (hl : l.length ≤ 1000000) : ∀ (m i k : Nat), l.length - i = m → i ≤ l.length → m + 3 * l.length + 10 ≤ k → Y5.l0 k (i : Int) d l = some (if Y1Y (l.drop i) = 0 then (if ord30 l = true then (if l.all (kno30 l) = true then 0 else 6) else 5) else Y1Y (l.drop i))
  | 0, i, k, hm, hi, hk => by
    obtain ⟨k, rfl⟩ : ∃ j, k = j + 1 := ⟨k - 1, by omega⟩
    unfold Y5.l0
    rw [if_neg (by omega), List.drop_of_length_le (by omega)]
    have := Y57 d l hl (l.length - 1) 1 k (by omega) (by omega) (by omega) (by omega)
    rw [show 1 - 1 = 0 from rfl, List.drop_zero] at this
    exact this
  | m + 1, i, k, hm, hi, hk => by
    obtain ⟨k, rfl⟩ : ∃ j, k = j + 1 := ⟨k - 1, by omega⟩
    have hlt : i < l.length := by omega
    unfold Y5.l0
    obtain ⟨q, rfl⟩ : ∃ q, k = q + 5 := ⟨k - 5, by omega⟩
    rw [if_pos (by omega), if_pos (by omega), Y1J hlt, Y2M, Option.bind_some, Y2e (by omega), List.drop_eq_getElem_cons hlt]
    show _ = some (if (if chk30 l[i] = 0 then Y1Y (l.drop (i + 1)) else chk30 l[i]) = 0 then _ else (if chk30 l[i] = 0 then Y1Y (l.drop (i + 1)) else chk30 l[i]))
    by_cases hz : chk30 l[i] = 0
    · rw [if_pos hz, if_pos (show chkE _ _ _ _ _ _ _ _ _ _ _ _ _ = 0 from hz), Y56 d l hl m (i + 1) (q + 5) (by omega) (by omega) (by omega)]
    · rw [if_neg hz, if_neg (show ¬ chkE _ _ _ _ _ _ _ _ _ _ _ _ _ = 0 from hz), if_neg hz]
      rfl
theorem Y6s (k : Nat) (d : Int) (l : List S30) (hl : l.length ≤ 1000000) (hk : 4 * l.length + 20 ≤ k) : Y5.f k d l = some (rchkP d l) := by
  obtain ⟨k, rfl⟩ : ∃ j, k = j + 1 := ⟨k - 1, by omega⟩
  unfold Y5.f rchkP
  have h0 := Y56 d l hl l.length 0 k (by omega) (by omega) (by omega)
  rw [List.drop_zero] at h0
  by_cases h1 : d < 1
  · rw [if_pos h1, if_pos (Or.inl h1)]
    rfl
  · rw [if_neg h1]
    show (if decide (d > 64) = true then some 43 else if (l.length : Int) > 512 then some 3 else Y5.l0 k 0 d l) = _
    by_cases h2 : 64 < d
    · rw [if_pos (Or.inr h2), if_pos (decide_eq_true h2)]
    · rw [if_neg (show ¬ (d < 1 ∨ 64 < d) by omega), if_neg (show ¬ decide (d > 64) = true by simpa using h2)]
      by_cases h3 : 512 < l.length
      · rw [if_pos h3, if_pos (by omega)]
      · rw [if_neg h3, if_neg (by omega)]
        exact h0
theorem Y5Z (l : List S30) (hl : l.length ≤ 1000000) (y : S30) : ∀ (m i k : Nat), l.length - i = m → i ≤ l.length → m + 1 ≤ k → Yt.l0 k l (i : Int) y.f0.f0 y.f0.f1 y.f1 y.f2.f0 y.f2.f1 y.f3 y.f4.f0 y.f4.f1 y.f4.f2 y.f4.f3 y.f4.f4 y.f4.f5 y.f4.f6 = some ((l.drop i).any (fun e => eqE e y))
  | 0, i, k, hm, hi, hk => by
    obtain ⟨k, rfl⟩ : ∃ j, k = j + 1 := ⟨k - 1, by omega⟩
    unfold Yt.l0
    rw [if_neg (by omega), List.drop_of_length_le (by omega)]
    rfl
  | m + 1, i, k, hm, hi, hk => by
    obtain ⟨k, rfl⟩ : ∃ j, k = j + 1 := ⟨k - 1, by omega⟩
    have hlt : i < l.length := by omega
    unfold Yt.l0
    rw [if_pos (by omega), if_pos (by omega), Y1J hlt, Y2e (by omega), List.drop_eq_getElem_cons hlt, List.any_cons, Y5Z l hl y m (i + 1) k (by omega) (by omega) (by omega)]
    show (if eqE l[i] y = true then _ else _) = _
    cases eqE l[i] y
    · rw [if_neg (by decide), Bool.false_or]
    · rw [if_pos rfl, Bool.true_or]
theorem Y6F (k : Nat) (l : List S30) (hl : l.length ≤ 1000000) (y : S30) (hk : l.length + 1 ≤ k) : Yt.f k l y.f0.f0 y.f0.f1 y.f1 y.f2.f0 y.f2.f1 y.f3 y.f4.f0 y.f4.f1 y.f4.f2 y.f4.f3 y.f4.f4 y.f4.f5 y.f4.f6 = some (l.any (fun e => eqE e y)) := by
  have := Y5Z l hl y l.length 0 k (by omega) (by omega) hk
  rw [List.drop_zero] at this
  exact this
def stE (c d : Int) (e : S30) : Bool := e.f0.f0 == c && (e.f0.f1 == d)
theorem Y39 (l : List S30) (hl : l.length ≤ 1000000) (c d : Int) : ∀ (m i k : Nat), l.length - i = m → i ≤ l.length → m + 1 ≤ k → Yo.l0 k l (i : Int) c d = some ((l.drop i).any (stE c d))
  | 0, i, k, hm, hi, hk => by
    obtain ⟨k, rfl⟩ : ∃ j, k = j + 1 := ⟨k - 1, by omega⟩
    unfold Yo.l0
    rw [if_neg (by omega), List.drop_of_length_le (by omega)]
    rfl
  | m + 1, i, k, hm, hi, hk => by
    obtain ⟨k, rfl⟩ : ∃ j, k = j + 1 := ⟨k - 1, by omega⟩
    have hlt : i < l.length := by omega
    unfold Yo.l0
    rw [if_pos (by omega), if_pos (by omega), Y1J hlt, Y2e (by omega), List.drop_eq_getElem_cons hlt, List.any_cons, Y39 l hl c d m (i + 1) k (by omega) (by omega) (by omega)]
    show (if stE c d l[i] = true then _ else _) = _
    cases stE c d l[i]
    · rw [if_neg (by decide), Bool.false_or]
    · rw [if_pos rfl, Bool.true_or]
theorem Y4v (k : Nat) (l : List S30) (hl : l.length ≤ 1000000) (c d : Int) (hk : l.length + 1 ≤ k) : Yo.f k l c d = some (l.any (stE c d)) := by
  have := Y39 l hl c d l.length 0 k (by omega) (by omega) hk
  rw [List.drop_zero] at this
  exact this
def insP (y : S30) : List S30 → List S30
  | [] => [y]
  | x :: t => if lessP y.f0.f0 y.f0.f1 x.f0.f0 x.f0.f1 = true then y :: x :: t else x :: insP y t
def dnP (y : S30) (l : List S30) : Bool → List S30
  | true => l
  | false => insP y l
theorem Y55 (l : List S30) (hl : l.length ≤ 1000000) (y : S30) : ∀ (m i k : Nat) (acc : List S30) (done : Bool), l.length - i = m → i ≤ l.length → m + 1 ≤ k → acc.length ≤ 2 * i → Yg.l0 k l acc done (i : Int) y.f0.f0 y.f0.f1 y.f1 y.f2.f0 y.f2.f1 y.f3 y.f4.f0 y.f4.f1 y.f4.f2 y.f4.f3 y.f4.f4 y.f4.f5 y.f4.f6 = some (acc ++ dnP y (l.drop i) done)
  | 0, i, k, acc, done, hm, hi, hk, ha => by
    obtain ⟨k, rfl⟩ : ∃ j, k = j + 1 := ⟨k - 1, by omega⟩
    unfold Yg.l0
    rw [if_neg (by omega), List.drop_of_length_le (by omega)]
    cases done
    · rw [if_neg (show ¬ (false = true) by decide), if_pos (by omega)]
      rfl
    · rw [if_pos rfl]
      show _ = some (acc ++ [])
      rw [List.append_nil]
  | m + 1, i, k, acc, done, hm, hi, hk, ha => by
    obtain ⟨k, rfl⟩ : ∃ j, k = j + 1 := ⟨k - 1, by omega⟩
    have hlt : i < l.length := by omega
    unfold Yg.l0
    rw [if_pos (by omega), Y1J hlt, Y2e (by omega)]
    have hd := List.drop_eq_getElem_cons hlt
    have ih := Y55 l hl y m (i + 1) k
    rw [hd]
    cases done
    · rw [if_neg (show ¬ (false = true) by decide), if_pos (by omega), Y3m, Option.bind_some]
      show _ = some (acc ++ (if lessP y.f0.f0 y.f0.f1 l[i].f0.f0 l[i].f0.f1 = true then y :: l[i] :: l.drop (i + 1) else l[i] :: insP y (l.drop (i + 1))))
      by_cases hq : lessP y.f0.f0 y.f0.f1 l[i].f0.f0 l[i].f0.f1 = true
      · rw [if_pos hq, if_pos hq, if_pos (by omega), Option.bind_some, if_pos (by simp; omega), ih _ true (by omega) (by omega) (by omega) (by simp; omega), List.append_assoc, List.append_assoc]
        rfl
      · rw [if_neg hq, if_neg hq, if_pos (by omega), ih _ false (by omega) (by omega) (by omega) (by simp; omega), List.append_assoc]
        rfl
    · rw [if_pos rfl, if_pos (by omega), if_pos (by omega), ih _ true (by omega) (by omega) (by omega) (by simp; omega), List.append_assoc]
      rfl
theorem Y6v (k : Nat) (l : List S30) (hl : l.length ≤ 1000000) (y : S30) (hk : l.length + 1 ≤ k) : Yg.f k l y.f0.f0 y.f0.f1 y.f1 y.f2.f0 y.f2.f1 y.f3 y.f4.f0 y.f4.f1 y.f4.f2 y.f4.f3 y.f4.f4 y.f4.f5 y.f4.f6 = some (insP y l) := by
  have := Y55 l hl y l.length 0 k [] false (by omega) (by omega) hk (by simp)
  rw [List.drop_zero] at this
  exact this
theorem Y4p {a b c d e f : Int} (h : lessP a b c d = true) (g : lessP c d e f = true) : lessP a b e f = true := by
  unfold lessP at *
  simp only [decide_eq_true_eq] at *
  omega
theorem Y45 {x : S30} {t : List S30} (h : ord30 (x :: t) = true) : ord30 t = true ∧ ∀ e ∈ t, Y2r x.f0 e.f0 = true := by
  induction t generalizing x with
  | nil => exact ⟨rfl, fun e he => by cases he⟩
  | cons z t ih =>
    have h2 : (Y2r x.f0 z.f0 && ord30 (z :: t)) = true := h
    rw [Bool.and_eq_true] at h2
    obtain ⟨g1, g2⟩ := ih h2.2
    refine ⟨h2.2, fun e he => ?_⟩
    rcases List.mem_cons.1 he with rfl | he
    · exact h2.1
    · exact Y4p h2.1 (g2 e he)
theorem Y3G (c d : Int) (e : S30) : stE c d e = true ↔ e.f0.f0 = c ∧ e.f0.f1 = d := by unfold stE; simp
theorem Y4N {x y : S30} (h : eqE x y = true) : stE y.f0.f0 y.f0.f1 x = true := by
  unfold eqE at h
  unfold stE
  rw [Bool.and_eq_true] at h
  exact h.1
theorem Y3X (c d : Int) : ∀ l : List S30, ord30 l = true → l.any (stE c d) = thrP c d l
  | [], _ => rfl
  | x :: t, h => by
    obtain ⟨h1, h2⟩ := Y45 h
    have ih := Y3X c d t h1
    by_cases hq : lessP x.f0.f0 x.f0.f1 c d = true
    · have e1 : plcP c d (x :: t) = plcP c d t + 1 := by rw [plcP, if_pos hq]
      have e2 : stE c d x = false := by
        rw [← Bool.not_eq_true, Y3G]
        unfold lessP at hq
        simp only [decide_eq_true_eq] at hq
        omega
      rw [List.any_cons, e2, Bool.false_or, ih]
      unfold thrP
      rw [e1, List.getElem?_cons_succ]
    · have e1 : plcP c d (x :: t) = 0 := by rw [plcP, if_neg hq]
      have e3 : t.any (stE c d) = false := by
        rw [List.any_eq_false]
        intro e he hs
        have hl := h2 e he
        rw [Y3G] at hs
        unfold Y2r lessP at hl
        unfold lessP at hq
        simp only [decide_eq_true_eq] at hl hq
        omega
      rw [List.any_cons, e3, Bool.or_false]
      unfold thrP
      rw [e1, List.getElem?_cons_zero]
      rfl
theorem Y5Y (y : S30) : ∀ l : List S30, ord30 l = true → thrP y.f0.f0 y.f0.f1 l = true → ∀ h : plcP y.f0.f0 y.f0.f1 l < l.length, l.any (fun e => eqE e y) = eqE (l[plcP y.f0.f0 y.f0.f1 l]'h) y
  | [], _, ht, _ => by cases ht
  | x :: t, ho, ht, h => by
    obtain ⟨h1, h2⟩ := Y45 ho
    by_cases hq : lessP x.f0.f0 x.f0.f1 y.f0.f0 y.f0.f1 = true
    · have e1 : plcP y.f0.f0 y.f0.f1 (x :: t) = plcP y.f0.f0 y.f0.f1 t + 1 := by rw [plcP, if_pos hq]
      have e2 : eqE x y = false := by
        rw [← Bool.not_eq_true]
        intro he
        have := Y4N he
        rw [Y3G] at this
        unfold lessP at hq
        simp only [decide_eq_true_eq] at hq
        omega
      have ht2 : thrP y.f0.f0 y.f0.f1 t = true := by
        unfold thrP at ht ⊢
        rw [e1, List.getElem?_cons_succ] at ht
        exact ht
      simp only [e1, List.getElem_cons_succ]
      rw [List.any_cons, e2, Bool.false_or, Y5Y y t h1 ht2 (Y3W ht2)]
    · have e1 : plcP y.f0.f0 y.f0.f1 (x :: t) = 0 := by rw [plcP, if_neg hq]
      have e3 : t.any (fun e => eqE e y) = false := by
        rw [List.any_eq_false]
        intro e he hs
        have hl := h2 e he
        have := Y4N hs
        rw [Y3G] at this
        unfold Y2r lessP at hl
        unfold lessP at hq
        simp only [decide_eq_true_eq] at hl hq
        omega
      simp only [e1, List.getElem_cons_zero]
      rw [List.any_cons, e3, Bool.or_false]
theorem Y60 (y : S30) : ∀ l : List S30, l.any (stE y.f0.f0 y.f0.f1) = false → insP y l = l.take (plcP y.f0.f0 y.f0.f1 l) ++ y :: l.drop (plcP y.f0.f0 y.f0.f1 l)
  | [], _ => rfl
  | x :: t, h => by
    rw [List.any_cons, Bool.or_eq_false_iff] at h
    have hs : ¬ (x.f0.f0 = y.f0.f0 ∧ x.f0.f1 = y.f0.f1) := by rw [← Y3G, h.1]; decide
    have ih := Y60 y t h.2
    by_cases hq : lessP x.f0.f0 x.f0.f1 y.f0.f0 y.f0.f1 = true
    · have e1 : plcP y.f0.f0 y.f0.f1 (x :: t) = plcP y.f0.f0 y.f0.f1 t + 1 := by rw [plcP, if_pos hq]
      have e2 : ¬ lessP y.f0.f0 y.f0.f1 x.f0.f0 x.f0.f1 = true := by
        unfold lessP at *
        simp only [decide_eq_true_eq] at *
        omega
      rw [e1, insP, if_neg e2, ih]
      rfl
    · have e1 : plcP y.f0.f0 y.f0.f1 (x :: t) = 0 := by rw [plcP, if_neg hq]
      have e2 : lessP y.f0.f0 y.f0.f1 x.f0.f0 x.f0.f1 = true := by
        unfold lessP at *
        simp only [decide_eq_true_eq] at *
        omega
      rw [e1, insP, if_pos e2]
      rfl
theorem Y46 {d : Int} {l : List S30} (h : rchkP d l = 0) : ord30 l = true ∧ l.length ≤ 512 ∧ Y1Y l = 0 ∧ l.all (kno30 l) = true ∧ 1 ≤ d ∧ d ≤ 64 := by
  unfold rchkP at h
  split at h
  · cases h
  · split at h
    · cases h
    · split at h
      · split at h
        · split at h
          · exact ⟨by assumption, by omega, by assumption, by assumption, by omega, by omega⟩
          · cases h
        · cases h
      · exact absurd h (by assumption)
theorem Y6r (k : Nat) (d : Int) (l : List S30) (hl : l.length ≤ 1000000) (y : S30) (hk : 4 * l.length + 30 ≤ k) : Yj.f k d l y.f0.f0 y.f0.f1 y.f1 y.f2.f0 y.f2.f1 y.f3 y.f4.f0 y.f4.f1 y.f4.f2 y.f4.f3 y.f4.f4 y.f4.f5 y.f4.f6 = some (addP d l y) := by
  unfold Yj.f addP
  rw [Y6s k d l hl (by omega), Option.bind_some]
  by_cases h1 : rchkP d l = 0
  rotate_left
  · rw [if_neg h1, if_neg h1]
  obtain ⟨ho, h512, _⟩ := Y46 h1
  obtain ⟨q, rfl⟩ : ∃ q, k = q + 5 := ⟨k - 5, by omega⟩
  rw [if_pos h1, if_pos h1, Y2M, Option.bind_some, show chkE y.f0.f0 y.f0.f1 y.f1 y.f2.f0 y.f2.f1 y.f3 y.f4.f0 y.f4.f1 y.f4.f2 y.f4.f3 y.f4.f4 y.f4.f5 y.f4.f6 = chk30 y from rfl]
  by_cases h2 : chk30 y = 0
  rotate_left
  · rw [if_neg h2, if_neg h2]
  rw [if_pos h2, if_pos h2, Y6F _ l hl y (by omega), Option.bind_some, Y4v _ l hl _ _ (by omega), Y3X _ _ l ho]
  by_cases ht : thrP y.f0.f0 y.f0.f1 l = true
  · have hp := Y3W ht
    rw [if_pos ht, Y5Y y l ho ht hp, Y1J hp]
    by_cases he : eqE (l[plcP y.f0.f0 y.f0.f1 l]'hp) y = true
    · rw [if_pos he, if_pos he]
      unfold Y1d.f
      rw [if_pos (by simp; omega), Option.bind_some]
      rfl
    · rw [if_neg he, if_neg he, Option.bind_some, if_pos ht]
  · have hn : l.any (stE y.f0.f0 y.f0.f1) = false := by rw [Y3X _ _ l ho]; simpa using ht
    have hh : l.any (fun e => eqE e y) = false := by
      rw [List.any_eq_false] at hn ⊢
      exact fun e he hs => hn e he (Y4N hs)
    rw [hh, if_neg (by decide), Option.bind_some, if_neg ht, if_neg ht, Y34 _ l hl y (by omega), Option.bind_some]
    have hj : ∀ b : Bool, Yj.j0 (q + 5) b d l y.f0.f0 y.f0.f1 y.f1 y.f2.f0 y.f2.f1 y.f3 y.f4.f0 y.f4.f1 y.f4.f2 y.f4.f3 y.f4.f4 y.f4.f5 y.f4.f6 = some (if b = true then (0, [], 6) else if 512 ≤ l.length then (0, [], 3) else (d, l.take (plcP y.f0.f0 y.f0.f1 l) ++ y :: l.drop (plcP y.f0.f0 y.f0.f1 l), 0)) := fun b => by
      show (if b = true then some (0, [], 6) else (if (l.length : Int) ≥ 512 then some (0, [], 3) else ((Yg.f (q + 4) l y.f0.f0 y.f0.f1 y.f1 y.f2.f0 y.f2.f1 y.f3 y.f4.f0 y.f4.f1 y.f4.f2 y.f4.f3 y.f4.f4 y.f4.f5 y.f4.f6).bind fun t540 => some (d, t540, 0)))) = _
      cases b
      · rw [if_neg (show ¬ (false = true) by decide), if_neg (show ¬ (false = true) by decide)]
        by_cases h5 : 512 ≤ l.length
        · rw [if_pos h5, if_pos (by omega)]
        · rw [if_neg h5, if_neg (by omega), Y6v _ l hl y (by omega), Option.bind_some, Y60 y l hn]
      · rw [if_pos rfl, if_pos rfl]
    have hjF : Yj.j0 (q + 5) false d l y.f0.f0 y.f0.f1 y.f1 y.f2.f0 y.f2.f1 y.f3 y.f4.f0 y.f4.f1 y.f4.f2 y.f4.f3 y.f4.f4 y.f4.f5 y.f4.f6 = some (if 512 ≤ l.length then (0, [], 3) else (d, l.take (plcP y.f0.f0 y.f0.f1 l) ++ y :: l.drop (plcP y.f0.f0 y.f0.f1 l), 0)) := hj false
    have hjT : Yj.j0 (q + 5) true d l y.f0.f0 y.f0.f1 y.f1 y.f2.f0 y.f2.f1 y.f3 y.f4.f0 y.f4.f1 y.f4.f2 y.f4.f3 y.f4.f4 y.f4.f5 y.f4.f6 = some (0, [], 6) := hj true
    by_cases hk2 : kno30 l y = true
    · rw [if_pos hk2, hjF, if_neg (show ¬ (fndsE y = false ∧ kno30 l y = false) from fun h => by rw [hk2] at h; cases h.2)]
    · rw [if_neg hk2, Y3w, Option.bind_some, Y4P]
      have hk3 : kno30 l y = false := by simpa using hk2
      cases hf : fndsE y
      · rw [Bool.not_false, hjT, if_pos ⟨rfl, hk3⟩]
      · rw [Bool.not_true, hjF, if_neg (show ¬ (true = false ∧ kno30 l y = false) from fun h => by cases h.1)]
theorem Y5b (j : Nat) (a0 a1 a2 a3 a4 : Int) (a5 : Bool) (a6 a7 a8 a9 a10 a11 a12 : Int) (rest : List Int) :
    Y1L (j + 5) a0 a1 a2 a3 a4 a5 a6 a7 a8 a9 a10 a11 a12 rest = some (endP a0 a1 a2 a3 a4 a5 a6 a7 a8 a9 a10 a11 a12 rest) := by
  unfold Y1L endP
  rw [Y2M, Option.bind_some]
  split
  · split <;> rfl
  · rfl
theorem Y5L (k : Nat) (b : List Int) (hl : b.length < 140737488355328) (hb : okB b) (hk : b.length + 40 ≤ k) : YJ.f k b = some (takeP b) := by
  have e1 := Y5h k 6 (by decide) b hl hb hk
  obtain ⟨j, rfl⟩ : ∃ j, k = j + 5 := ⟨k - 5, by omega⟩
  unfold YJ.f takeP
  rw [show (6 : Int) = ((6 : Nat) : Int) from rfl, e1, Option.bind_some]
  by_cases h1 : (dks 6 b).2.2 = 0
  · obtain ⟨i1, i2, i3⟩ := Y2y 6 b (dks 6 b).1 (dks 6 b).2.1 hb (by rw [← h1])
    have hr : (dks 6 b).2.1.length ≤ b.length := by have := congrArg List.length i1; rw [List.length_append] at this; omega
    have hrb : okB (dks 6 b).2.1 := fun x hx => hb x (by rw [i1]; exact List.mem_append_right _ hx)
    have e2 := Y5h (j + 5) 7 (by decide) (dks 6 b).2.1 (by omega) hrb (by omega)
    rw [if_pos h1, if_pos h1, if_pos i3]
    split
    · rw [Y5b]
    · split
      · rw [show (7 : Int) = ((7 : Nat) : Int) from rfl, e2, Option.bind_some]
        by_cases h2 : (dks 7 (dks 6 b).2.1).2.2 = 0
        · obtain ⟨j1, j2, j3⟩ := Y2y 7 (dks 6 b).2.1 (dks 7 (dks 6 b).2.1).1 (dks 7 (dks 6 b).2.1).2.1 hrb (by rw [← h2])
          rw [if_pos h2, if_pos h2, if_pos j3, Y5b]
        · rw [if_neg h2, if_neg h2]; rfl
      · rfl
  · rw [if_neg h1, if_neg h1]; rfl
end Go.Proofs.Yteopkkoblbmggaa.P
end
section
namespace Go.Proofs.Yteopkkoblbmggaa.P
open Go.RowKit Go.Proofs.YteopkkoblbmggaaW.PrintWords Go.Proofs.YteopkkoblbmggaaW.PrintLast Go.Proofs.YteopkkoblbmggaaW.PrintMore
theorem Y6Q : ∀ l : List Int, l.length = 6 → ∃ a b c d e f, l = [a, b, c, d, e, f]
  | [a, b, c, d, e, f], _ => ⟨a, b, c, d, e, f, rfl⟩
theorem Y5M : ∀ l : List Int, l.length = 7 → ∃ a b c d e f g, l = [a, b, c, d, e, f, g]
  | [a, b, c, d, e, f, g], _ => ⟨a, b, c, d, e, f, g, rfl⟩
theorem Y3n (b : List Int) (hb : okB b) : (∃ e, e ≠ 0 ∧ takeP b = errE e) ∨ ∃ a0 a1 a2 a3 a4 a5 a6 a7 a8 a9 a10 a11 a12, takeP b = (a0, a1, a2, a3, a4, a5, a6, a7, a8, a9, a10, a11, a12, 0) ∧
    chkE a0 a1 a2 a3 a4 a5 a6 a7 a8 a9 a10 a11 a12 = 0 ∧ okE a0 a1 a2 a3 a4 a6 a7 a8 a9 a10 a11 a12 ∧ putB a0 a1 a2 a3 a4 a5 a6 a7 a8 a9 a10 a11 a12 = b := by
  have z0 : okZ 0 := by unfold okZ; omega
  unfold takeP
  obtain ⟨l, rest, e, h⟩ : ∃ l rest e, dks 6 b = (l, rest, e) := ⟨_, _, _, rfl⟩
  rw [h]
  simp only
  by_cases h1 : e = 0
  · subst h1
    obtain ⟨i1, i2, i3⟩ := Y2y 6 b l rest hb h
    obtain ⟨x0, x1, x2, x3, x4, x5, rfl⟩ := Y6Q l i3
    have k0 := i2 x0 (by simp)
    have k1 := i2 x1 (by simp)
    have k2 := i2 x2 (by simp)
    have k3 := i2 x3 (by simp)
    have k4 := i2 x4 (by simp)
    rw [if_pos rfl]
    simp only [List.getD_cons_zero, List.getD_cons_succ]
    by_cases h2 : x5 = 1
    · rw [if_pos h2]
      unfold endP
      by_cases h3 : rest.length = 0
      · rw [if_pos h3]
        by_cases h4 : chkE x0 x1 x2 x3 x4 true 0 0 0 0 0 0 0 = 0
        · rw [if_pos h4]
          refine Or.inr ⟨x0, x1, x2, x3, x4, true, 0, 0, 0, 0, 0, 0, 0, rfl, h4, ⟨k0, k1, k2, k3, k4, z0, z0, z0, z0, z0, z0, z0⟩, ?_⟩
          rw [i1, List.length_eq_zero_iff.mp h3, h2]
          rfl
        · rw [if_neg h4]; exact Or.inl ⟨_, h4, rfl⟩
      · rw [if_neg h3]; exact Or.inl ⟨2, by decide, rfl⟩
    · rw [if_neg h2]
      by_cases h3 : x5 = 0
      · rw [if_pos h3]
        obtain ⟨m, r2, e2, h'⟩ : ∃ m r2 e2, dks 7 rest = (m, r2, e2) := ⟨_, _, _, rfl⟩
        rw [h']
        simp only
        have hrb : okB rest := fun x hx => hb x (by rw [i1]; exact List.mem_append_right _ hx)
        by_cases h4 : e2 = 0
        · subst h4
          obtain ⟨j1, j2, j3⟩ := Y2y 7 rest m r2 hrb h'
          obtain ⟨y0, y1, y2, y3, y4, y5, y6, rfl⟩ := Y5M m j3
          rw [if_pos rfl]
          simp only [List.getD_cons_zero, List.getD_cons_succ]
          unfold endP
          by_cases h5 : r2.length = 0
          · rw [if_pos h5]
            by_cases h6 : chkE x0 x1 x2 x3 x4 false y0 y1 y2 y3 y4 y5 y6 = 0
            · rw [if_pos h6]
              refine Or.inr ⟨x0, x1, x2, x3, x4, false, y0, y1, y2, y3, y4, y5, y6, rfl, h6, ⟨k0, k1, k2, k3, k4, j2 y0 (by simp), j2 y1 (by simp), j2 y2 (by simp), j2 y3 (by simp), j2 y4 (by simp), j2 y5 (by simp), j2 y6 (by simp)⟩, ?_⟩
              rw [i1, j1, List.length_eq_zero_iff.mp h5, h3, List.append_nil]
              rfl
            · rw [if_neg h6]; exact Or.inl ⟨_, h6, rfl⟩
          · rw [if_neg h5]; exact Or.inl ⟨2, by decide, rfl⟩
        · rw [if_neg h4]; exact Or.inl ⟨_, h4, rfl⟩
      · rw [if_neg h3]; exact Or.inl ⟨2, by decide, rfl⟩
  · rw [if_neg h1]; exact Or.inl ⟨_, h1, rfl⟩
end Go.Proofs.Yteopkkoblbmggaa.P
end
section
set_option linter.unusedVariables false
set_option linter.unusedSimpArgs false
namespace Go.Proofs.Yteopkkoblbmggaa.P
open Go.RowKit Go.Proofs.YteopkkoblbmggaaW.PrintWords Go.Proofs.YteopkkoblbmggaaW.PrintLast Go.Proofs.YteopkkoblbmggaaW.PrintMore
theorem Y2s {n : Int} (h : okZ n) : okN n := by
  have e1 : IntKind.i64.min = -9223372036854775808 := rfl
  have e2 : IntKind.i64.max = 9223372036854775807 := rfl
  unfold okZ at h
  unfold okN
  simp only [Lit.wf, e1, e2, Bool.and_eq_true, decide_eq_true_eq]
  exact h
theorem Y3k {b c : List Int} {n : Int} (h : openP b = (c, n, 0)) (hb : okB b) : okB c ∧ 0 < n ∧ n ≤ (b.length : Int) ∧ c.length ≤ b.length := by
  have hd := dec_k b
  unfold openP at h
  by_cases h1 : (dec b).2.2 = 0
  · rw [if_pos h1] at h
    by_cases h2 : (dec b).1 < 0
    · rw [if_pos h2] at h; simp at h
    rw [if_neg h2] at h
    by_cases h3 : 65536 < (dec b).1
    · rw [if_pos h3] at h; simp at h
    rw [if_neg h3] at h
    by_cases h4 : (b.length : Int) < (dec b).2.1 + 4 + (dec b).1
    · rw [if_pos h4] at h; simp at h
    rw [if_neg h4] at h
    split at h
    · simp only [Prod.mk.injEq] at h
      obtain ⟨rfl, rfl, _⟩ := h
      refine ⟨fun x hx => hb x (List.mem_of_mem_take (List.mem_of_mem_drop hx)), by omega, by omega, ?_⟩
      rw [List.length_drop, List.length_take]
      omega
    · simp at h
  · rw [if_neg h1] at h
    simp only [Prod.mk.injEq] at h
    exact absurd h.2.2 h1
theorem Y2i {b : List Int} (hb : okB b) (n : Nat) : okB (b.drop n) := fun x hx => hb x (List.mem_of_mem_drop hx)
theorem Y4q (k : Nat) (b : List Int) (hb : okB b) (hl : b.length ≤ 1000000) (hk : 10 * b.length + 100 ≤ k) : opens k b = true := by
  unfold opens
  rw [List.all_eq_true]
  intro i hi
  have hdl : (b.drop i).length ≤ b.length := by rw [List.length_drop]; omega
  unfold Y2n
  rw [Y4Y k (b.drop i) (Y2i hb i) (by omega) (by omega)]
  generalize ho : openP (b.drop i) = o
  obtain ⟨c, n, e⟩ := o
  dsimp only
  split
  · rename_i he
    subst he
    have := Y3k ho (Y2i hb i)
    exact decide_eq_true ⟨this.2.1, this.2.2.1⟩
  · rfl
def allE (l : List S30) : Prop := ∀ e ∈ l, okE30 e
theorem Y3L {d d' : Int} {l l' : List S30} {y : S30} (h : addP d l y = (d', l', 0)) (hl : allE l) (hy : okE30 y) : allE l' ∧ l'.length ≤ 512 ∧ d' = d := by
  unfold addP at h
  by_cases h1 : rchkP d l = 0
  · have h5 := (Y46 h1).2.1
    rw [if_pos h1] at h
    by_cases h2 : chk30 y = 0
    · rw [if_pos h2] at h
      split at h
      · split at h
        · simp only [Prod.mk.injEq] at h
          obtain ⟨rfl, rfl, _⟩ := h
          exact ⟨hl, h5, rfl⟩
        · simp at h
      · split at h
        · simp at h
        · split at h
          · simp at h
          · simp only [Prod.mk.injEq] at h
            obtain ⟨rfl, rfl, _⟩ := h
            refine ⟨fun e he => ?_, ?_, rfl⟩
            · rw [List.mem_append, List.mem_cons] at he
              rcases he with he | rfl | he
              · exact hl e (List.mem_of_mem_take he)
              · exact hy
              · exact hl e (List.mem_of_mem_drop he)
            · rw [List.length_append, List.length_cons, List.length_take, List.length_drop]
              omega
    · rw [if_neg h2] at h
      simp only [Prod.mk.injEq] at h
      exact absurd h.2.2 h2
  · rw [if_neg h1] at h
    simp only [Prod.mk.injEq] at h
    exact absurd h.2.2 h1
def rcvP (b : List Int) : Nat → Nat → Int → List S30 → Int × List S30 × Int
  | 0, a, d, l => (d, l, (a : Int))
  | j + 1, a, d, l => match openP (b.drop a) with
    | (c, n, e) => if e = 0 then (match takeP c with
      | (t1, t2, t3, t4, t5, t6, t7, t8, t9, t10, t11, t12, t13, t14) => if t14 = 0 then (match addP d l (mk30 t1 t2 t3 t4 t5 t6 t7 t8 t9 t10 t11 t12 t13) with
        | (d', l', f) => if f = 0 then rcvP b j (a + n.toNat) d' l' else (d, l, (a : Int))) else (d, l, (a : Int))) else (d, l, (a : Int))
theorem Y6N (b : List Int) (hb : okB b) (hbl : b.length ≤ 1000000) (k : Nat) (hk : 10 * b.length + 100 ≤ k) : ∀ (j a : Nat) (d : Int) (l : List S30), a ≤ b.length → b.length - a < j → allE l → rcv k b j (a : Int) d l = some (rcvP b j a d l) := by
  intro j
  induction j with
  | zero => intro a d l _ h _; omega
  | succ j ih =>
    intro a d l ha hj hl
    have hdl : (b.drop a).length ≤ b.length := by rw [List.length_drop]; omega
    have hbd := Y2i hb a
    unfold rcv rcvP
    rw [Int.toNat_natCast, Y4Y k (b.drop a) hbd (by omega) (by omega), Option.bind_some]
    generalize ho : openP (b.drop a) = o
    obtain ⟨c, n, e⟩ := o
    dsimp only
    by_cases he : e = 0
    · subst he
      rw [if_pos rfl, if_pos rfl]
      obtain ⟨hc, hn0, hn1, hcl⟩ := Y3k ho hbd
      rw [Y6A k c (by omega) hc (by omega), Option.bind_some]
      rcases Y3n c hc with ⟨f, hf, ht⟩ | ⟨a0, a1, a2, a3, a4, a5, a6, a7, a8, a9, a10, a11, a12, ht, hz, hok, _⟩
      · rw [ht]
        unfold errE
        dsimp only
        rw [if_neg hf, if_neg hf]
      · rw [ht]
        dsimp only
        rw [if_pos rfl, if_pos rfl]
        have hy : okE30 (mk30 a0 a1 a2 a3 a4 a5 a6 a7 a8 a9 a10 a11 a12) := ⟨Y2s hok.2.2.1, Y2s hok.2.2.2.1, Y2s hok.2.2.2.2.1⟩
        rw [show Y1M.f d l a0 a1 a2 a3 a4 a5 a6 a7 a8 a9 a10 a11 a12 = some (addP d l (mk30 a0 a1 a2 a3 a4 a5 a6 a7 a8 a9 a10 a11 a12)) by unfold Y1M.f; rw [if_pos ⟨hl, hy⟩], Option.bind_some]
        generalize hadd : addP d l (mk30 a0 a1 a2 a3 a4 a5 a6 a7 a8 a9 a10 a11 a12) = r
        obtain ⟨d', l', f⟩ := r
        dsimp only
        by_cases hf : f = 0
        · subst hf
          rw [if_pos rfl, if_pos rfl]
          obtain ⟨g1, g2, g3⟩ := Y3L hadd hl hy
          rw [List.length_drop] at hn1
          have := ih (a + n.toNat) d' l' (by omega) (by omega) g1
          rw [← this]
          congr 1
          omega
        · rw [if_neg hf, if_neg hf]
    · rw [if_neg he, if_neg he]
theorem Y6w (b : List Int) (hb : okB b) (hbl : b.length ≤ 1000000) : ∀ (j a : Nat) (d : Int) (l : List S30) (k : Nat), a ≤ b.length → b.length - a < j → allE l → l.length ≤ 512 → 10 * b.length + 5000 + j ≤ k → Ye.l0 k b (a : Int) d l = some ((rcvP b j a d l).1, (rcvP b j a d l).2.1, (rcvP b j a d l).2.2, 0) := by
  intro j
  induction j with
  | zero => intro a d l k _ h _ _ _; omega
  | succ j ih =>
    intro a d l k ha hj hl hll hk
    have hdl : (b.drop a).length ≤ b.length := by rw [List.length_drop]; omega
    have hbd := Y2i hb a
    obtain ⟨k, rfl⟩ : ∃ q, k = q + 1 := ⟨k - 1, by omega⟩
    unfold Ye.l0 rcvP
    rw [if_pos (by omega), if_pos (by omega), Int.toNat_natCast, Y5J k (b.drop a) hbd (by omega) (by omega), Option.bind_some]
    generalize ho : openP (b.drop a) = o
    obtain ⟨c, n, e⟩ := o
    dsimp only
    by_cases he : e = 0
    · subst he
      simp only [if_true]
      obtain ⟨hc, hn0, hn1, hcl⟩ := Y3k ho hbd
      rw [Y5L k c (by omega) hc (by omega), Option.bind_some]
      rcases Y3n c hc with ⟨f, hf, ht⟩ | ⟨a0, a1, a2, a3, a4, a5, a6, a7, a8, a9, a10, a11, a12, ht, hz, hok, _⟩
      · rw [ht]
        unfold errE
        dsimp only
        simp only [if_neg hf]
      · rw [ht]
        dsimp only
        simp only [if_true]
        have hy : okE30 (mk30 a0 a1 a2 a3 a4 a5 a6 a7 a8 a9 a10 a11 a12) := ⟨Y2s hok.2.2.1, Y2s hok.2.2.2.1, Y2s hok.2.2.2.2.1⟩
        have hradd : Yj.f k d l a0 a1 a2 a3 a4 a5 a6 a7 a8 a9 a10 a11 a12 = some (addP d l (mk30 a0 a1 a2 a3 a4 a5 a6 a7 a8 a9 a10 a11 a12)) := Y6r k d l (by omega) (mk30 a0 a1 a2 a3 a4 a5 a6 a7 a8 a9 a10 a11 a12) (by omega)
        rw [hradd, Option.bind_some]
        generalize hadd : addP d l (mk30 a0 a1 a2 a3 a4 a5 a6 a7 a8 a9 a10 a11 a12) = r
        obtain ⟨d', l', f⟩ := r
        dsimp only
        by_cases hf : f = 0
        · subst hf
          simp only [if_true]
          obtain ⟨g1, g2, g3⟩ := Y3L hadd hl hy
          rw [List.length_drop] at hn1
          rw [show wrap64 ((a : Int) + n) = ((a + n.toNat : Nat) : Int) by unfold wrap64; omega]
          exact ih (a + n.toNat) d' l' k (by omega) (by omega) g1 g2 (by omega)
        · simp only [if_neg hf]
    · simp only [if_neg he]
def recP (d : Int) (b : List Int) : Int × List S30 × Int × Int :=
  if d < 1 ∨ 64 < d then (0, [], 0, 43) else ((rcvP b (b.length + 1) 0 d []).1, (rcvP b (b.length + 1) 0 d []).2.1, (rcvP b (b.length + 1) 0 d []).2.2, 0)
theorem Y6O (k : Nat) (d : Int) (b : List Int) (hb : okB b) (hbl : b.length ≤ 1000000) (hk : 10 * b.length + 100 ≤ k) : Yy.f k d b = some (recP d b) := by
  unfold Yy.f recP
  by_cases h : d < 1 ∨ 64 < d
  · rw [if_pos h, if_pos h]
  · rw [if_neg h, if_neg h, if_pos ⟨Y4q k b hb hbl hk, hbl⟩]
    have := Y6N b hb hbl k hk (b.length + 1) 0 d [] (by omega) (by omega) (fun e he => by cases he)
    rw [show ((0 : Nat) : Int) = 0 from rfl] at this
    rw [this, Option.bind_some]
theorem Y6x (k : Nat) (d : Int) (b : List Int) (hb : okB b) (hbl : b.length ≤ 1000000) (hk : 11 * b.length + 5010 ≤ k) : Ye.f k d b = some (recP d b) := by
  obtain ⟨k, rfl⟩ : ∃ q, k = q + 1 := ⟨k - 1, by omega⟩
  unfold Ye.f recP
  have h0 := Y6w b hb hbl (b.length + 1) 0 d [] k (by omega) (by omega) (fun e he => by cases he) (by simp) (by omega)
  by_cases h1 : d < 1
  · rw [if_pos h1, if_pos (Or.inl h1)]
    rfl
  · rw [if_neg h1]
    show (if decide (d > 64) = true then some (0, [], 0, 43) else Ye.l0 k b 0 d []) = _
    by_cases h2 : 64 < d
    · rw [if_pos (decide_eq_true h2), if_pos (Or.inr h2)]
    · rw [if_neg (show ¬ decide (d > 64) = true by simpa using h2), if_neg (show ¬ (d < 1 ∨ 64 < d) by omega)]
      exact h0
theorem Y5G (b : List Int) (hb : okB b) : ∀ (j a : Nat) (d : Int) (l : List S30), allE l → l.length ≤ 512 → (rcvP b j a d l).2.1.length ≤ 512 ∧ allE (rcvP b j a d l).2.1 := by
  intro j
  induction j with
  | zero => intro a d l hl h; exact ⟨h, hl⟩
  | succ j ih =>
    intro a d l hl h
    have hbd := Y2i hb a
    unfold rcvP
    generalize ho : openP (b.drop a) = o
    obtain ⟨c, n, e⟩ := o
    dsimp only
    by_cases he : e = 0
    · subst he
      rw [if_pos rfl]
      obtain ⟨hc, hn0, hn1, hcl⟩ := Y3k ho hbd
      rcases Y3n c hc with ⟨f, hf, ht⟩ | ⟨a0, a1, a2, a3, a4, a5, a6, a7, a8, a9, a10, a11, a12, ht, hz, hok, _⟩
      · rw [ht]
        unfold errE
        dsimp only
        rw [if_neg hf]
        exact ⟨h, hl⟩
      · rw [ht]
        dsimp only
        rw [if_pos rfl]
        have hy : okE30 (mk30 a0 a1 a2 a3 a4 a5 a6 a7 a8 a9 a10 a11 a12) := ⟨Y2s hok.2.2.1, Y2s hok.2.2.2.1, Y2s hok.2.2.2.2.1⟩
        generalize hadd : addP d l (mk30 a0 a1 a2 a3 a4 a5 a6 a7 a8 a9 a10 a11 a12) = r
        obtain ⟨d', l', f⟩ := r
        dsimp only
        by_cases hf : f = 0
        · subst hf
          rw [if_pos rfl]
          obtain ⟨g1, g2, g3⟩ := Y3L hadd hl hy
          exact ih _ d' l' g1 g2
        · rw [if_neg hf]
          exact ⟨h, hl⟩
    · rw [if_neg he]
      exact ⟨h, hl⟩
theorem Y5H (d : Int) (b : List Int) (hb : okB b) (hbl : b.length ≤ 1000000) : (recP d b).2.1.length ≤ 512 := by
  unfold recP
  split
  · simp
  · exact (Y5G b hb (b.length + 1) 0 d [] (fun e he => by cases he) (by simp)).1
end Go.Proofs.Yteopkkoblbmggaa.P
end
section
set_option linter.unusedVariables false
set_option linter.unusedSimpArgs false
namespace Go.Proofs.Yteopkkoblbmggaa.Pure
open Go.RowKit Go.Proofs.Yteopkkoblbmggaa.P Go.Proofs.Yteopkkoblbmggaa.Open Go.Proofs.YteopkkoblbmggaaW.PrintWords Go.Proofs.YteopkkoblbmggaaW.PrintLast Go.Proofs.YteopkkoblbmggaaW.PrintMore
theorem JournalRecovers (a0 : Int) (l1 : List Int) (w0 : okI a0) (w1 : l1.length ≤ maxLen ∧ l1.length * 1 ≤ 140737488351232 ∧ ∀ y ∈ l1, (0 ≤ y ∧ y ≤ 255)) : ∃ k, YI.f k a0 l1 = some true := by
  have hb : okB l1 := fun x hx => w1.2.2 x hx
  refine ⟨40000, ?_⟩
  unfold YI.f
  by_cases hl : (l1.length : Int) > 2000
  · rw [if_pos hl, Y31 40000 (by decide)]; rfl
  · rw [if_neg hl, Y6O 40000 a0 l1 hb (by omega) (by omega), Y6x 40000 a0 l1 hb (by omega) (by omega), Option.bind_some, Option.bind_some]
    have hlen := Y5H a0 l1 hb (by omega)
    rw [Y5i 40000 _ _ (by omega) (by omega), Option.bind_some, if_pos rfl, if_pos rfl, if_pos rfl, Y31 40000 (by decide)]
    rfl
end Go.Proofs.Yteopkkoblbmggaa.Pure
end

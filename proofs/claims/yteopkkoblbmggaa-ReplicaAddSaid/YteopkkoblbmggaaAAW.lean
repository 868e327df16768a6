/- Texts of this claim in one: VRAddP, VSamR, PureReplicaAdd; no condition. -/
import Derived.Test.YteopkkoblbmggaaAAE
import Derived.Test.YteopkkoblbmggaaAAH
import Derived.Test.YteopkkoblbmggaaAAQ
import Derived.Test.YteopkkoblbmggaaAAR
import Derived.Test.YteopkkoblbmggaaAAS
import Derived.Test.YteopkkoblbmggaaAAT
import Derived.Test.YteopkkoblbmggaaAAU
import Derived.Test.YteopkkoblbmggaaAAJ
import Derived.Test.YteopkkoblbmggaaAAI
import Derived.Test.YteopkkoblbmggaaAAV
section
set_option linter.unusedVariables false
set_option linter.unusedSimpArgs false
namespace Go.Proofs.Yteopkkoblbmggaa.P
open Go.RowKit Go.Proofs.YteopkkoblbmggaaW.PrintWords Go.Proofs.YteopkkoblbmggaaW.PrintLast Go.Proofs.YteopkkoblbmggaaW.PrintMore
theorem Y1S {i : Nat} (h : i ≤ 2000000) : wrap64 ((i : Int) + 1) = ((i + 1 : Nat) : Int) := by unfold wrap64; omega
def fndB (x y : S30) : Bool := fndsE x && decide (y.f1 = x.f1 ∧ y.f2.f0 = x.f2.f0 ∧ y.f2.f1 = x.f2.f1)
theorem Y4f (y : S30) : fndB y y = fndsE y := by unfold fndB; simp
theorem Y37 (x y : S30) : YM.f x.f0.f0 x.f0.f1 x.f1 x.f2.f0 x.f2.f1 x.f3 x.f4.f0 x.f4.f1 x.f4.f2 x.f4.f3 x.f4.f4 x.f4.f5 x.f4.f6 y.f0.f0 y.f0.f1 y.f1 y.f2.f0 y.f2.f1 y.f3 y.f4.f0 y.f4.f1 y.f4.f2 y.f4.f3 y.f4.f4 y.f4.f5 y.f4.f6 = some (fndB x y) := by
  unfold YM.f
  by_cases h1 : x.f1 = y.f1
  · rw [if_pos h1]
    by_cases h3 : x.f3 = true
    · rw [if_pos h3]
      congr 1
      unfold fndB fndsE
      rw [h3]
      rfl
    · rw [if_neg h3]
      have h3' : x.f3 = false := by simpa using h3
      by_cases h4 : (x.f0.f0 == y.f2.f0 && (x.f0.f1 == y.f2.f1)) = true
      · rw [if_pos h4]
        congr 1
        rw [Bool.eq_iff_iff]
        simp only [Bool.and_eq_true, beq_iff_eq] at h4
        simp [fndB, fndsE, h3']
        omega
      · rw [if_neg h4]
        congr 1
        symm
        rw [← Bool.not_eq_true]
        simp only [Bool.and_eq_true, beq_iff_eq] at h4
        simp [fndB, fndsE, h3']
        omega
  · rw [if_neg h1]
    congr 1
    symm
    rw [← Bool.not_eq_true]
    simp [fndB]
    intro _ h
    exact absurd h.symm h1
theorem Y2E (l : List S30) (hl : l.length ≤ 1000000) (y : S30) : ∀ (m i k : Nat), l.length - i = m → i ≤ l.length → m + 1 ≤ k → Yg.l0 k l (i : Int) y.f0.f0 y.f0.f1 y.f1 y.f2.f0 y.f2.f1 y.f3 y.f4.f0 y.f4.f1 y.f4.f2 y.f4.f3 y.f4.f4 y.f4.f5 y.f4.f6 = some ((l.drop i).any (fun e => fndB e y))
  | 0, i, k, hm, hi, hk => by
    obtain ⟨k, rfl⟩ : ∃ j, k = j + 1 := ⟨k - 1, by omega⟩
    unfold Yg.l0
    rw [if_neg (by omega), List.drop_of_length_le (by omega)]
    rfl
  | m + 1, i, k, hm, hi, hk => by
    obtain ⟨k, rfl⟩ : ∃ j, k = j + 1 := ⟨k - 1, by omega⟩
    have hlt : i < l.length := by omega
    unfold Yg.l0
    rw [if_pos (by omega), if_pos (by omega), Y1v hlt, Y37, Option.bind_some, Y1S (by omega), List.drop_eq_getElem_cons hlt, List.any_cons]
    cases fndB l[i] y
    · rw [if_neg (by decide), Y2E l hl y m (i + 1) k (by omega) (by omega) (by omega), Bool.false_or]
    · rw [if_pos rfl, Bool.true_or]
theorem Y2D (k : Nat) (l : List S30) (hl : l.length ≤ 1000000) (y : S30) (hk : l.length + 1 ≤ k) : Yg.f k l y.f0.f0 y.f0.f1 y.f1 y.f2.f0 y.f2.f1 y.f3 y.f4.f0 y.f4.f1 y.f4.f2 y.f4.f3 y.f4.f4 y.f4.f5 y.f4.f6 = some (kno30 l y) := by
  have := Y2E l hl y l.length 0 k (by omega) (by omega) hk
  rw [List.drop_zero] at this
  exact this
theorem Y4y (d : Int) (l : List S30) (hl : l.length ≤ 1000000) : ∀ (m i k : Nat), l.length - i = m → i ≤ l.length → m + l.length + 2 ≤ k → Y7.l2 k (i : Int) d l = some (if (l.drop i).all (kno30 l) = true then 0 else 6)
  | 0, i, k, hm, hi, hk => by
    obtain ⟨k, rfl⟩ : ∃ j, k = j + 1 := ⟨k - 1, by omega⟩
    unfold Y7.l2
    rw [if_neg (by omega), List.drop_of_length_le (by omega)]
    rfl
  | m + 1, i, k, hm, hi, hk => by
    obtain ⟨k, rfl⟩ : ∃ j, k = j + 1 := ⟨k - 1, by omega⟩
    have hlt : i < l.length := by omega
    unfold Y7.l2
    rw [if_pos (by omega), if_pos (by omega), Y1v hlt, Y2D k l hl l[i] (by omega), Option.bind_some, Y1S (by omega), List.drop_eq_getElem_cons hlt, List.all_cons]
    cases kno30 l l[i]
    · rw [if_neg (by decide), Bool.false_and, if_neg (by decide)]
    · rw [if_pos rfl, Y4y d l hl m (i + 1) k (by omega) (by omega) (by omega), Bool.true_and]
theorem Y4x (d : Int) (l : List S30) (hl : l.length ≤ 1000000) : ∀ (m i k : Nat), l.length - i = m → 1 ≤ i → (i ≤ l.length ∨ i = 1) → m + 2 * l.length + 3 ≤ k → Y7.l1 k (i : Int) d l = some (if ord30 (l.drop (i - 1)) = true then (if l.all (kno30 l) = true then 0 else 6) else 5)
  | 0, i, k, hm, h1, hi, hk => by
    obtain ⟨k, rfl⟩ : ∃ j, k = j + 1 := ⟨k - 1, by omega⟩
    unfold Y7.l1
    have ho : ord30 (l.drop (i - 1)) = true := by
      have : (l.drop (i - 1)).length ≤ 1 := by rw [List.length_drop]; omega
      match hd : l.drop (i - 1), this with
      | [], _ => rfl
      | [a], _ => rfl
      | a :: b :: t, h => simp at h
    rw [if_neg (by omega), ho, if_pos rfl]
    have := Y4y d l hl l.length 0 k (by omega) (by omega) (by omega)
    rw [List.drop_zero] at this
    exact this
  | m + 1, i, k, hm, h1, hi, hk => by
    obtain ⟨k, rfl⟩ : ∃ j, k = j + 1 := ⟨k - 1, by omega⟩
    have hlt : i < l.length := by omega
    obtain ⟨p, rfl⟩ : ∃ p, i = p + 1 := ⟨i - 1, by omega⟩
    have hlp : p < l.length := by omega
    unfold Y7.l1
    have hw : wrap64 (((p + 1 : Nat) : Int) - 1) = (p : Int) := by unfold wrap64; omega
    rw [hw, if_pos (by omega), if_pos (by omega), if_pos (by omega), if_pos (by omega), Y1v hlp, Y1v hlt, Y30, Option.bind_some, Y1S (by omega), Nat.add_sub_cancel, List.drop_eq_getElem_cons hlp, List.drop_eq_getElem_cons hlt]
    show _ = some (if (Y1F l[p].f0 l[p + 1].f0 && ord30 (l[p + 1] :: l.drop (p + 1 + 1))) = true then _ else _)
    have hd := List.drop_eq_getElem_cons hlt
    rw [← hd]
    unfold Y1F
    cases lessP l[p].f0.f0 l[p].f0.f1 l[p + 1].f0.f0 l[p + 1].f0.f1
    · rw [if_neg (by decide), Bool.false_and, if_neg (by decide)]
    · rw [if_pos rfl, Bool.true_and, Y4x d l hl m (p + 1 + 1) k (by omega) (by omega) (by omega) (by omega)]
      rfl
theorem Y4w (d : Int) (l : List S30) (hl : l.length ≤ 1000000) : ∀ (m i k : Nat), l.length - i = m → i ≤ l.length → m + 3 * l.length + 10 ≤ k → Y7.l0 k (i : Int) d l = some (if Y1C (l.drop i) = 0 then (if ord30 l = true then (if l.all (kno30 l) = true then 0 else 6) else 5) else Y1C (l.drop i))
  | 0, i, k, hm, hi, hk => by
    obtain ⟨k, rfl⟩ : ∃ j, k = j + 1 := ⟨k - 1, by omega⟩
    unfold Y7.l0
    rw [if_neg (by omega), List.drop_of_length_le (by omega)]
    have := Y4x d l hl (l.length - 1) 1 k (by omega) (by omega) (by omega) (by omega)
    rw [show 1 - 1 = 0 from rfl, List.drop_zero] at this
    exact this
  | m + 1, i, k, hm, hi, hk => by
    obtain ⟨k, rfl⟩ : ∃ j, k = j + 1 := ⟨k - 1, by omega⟩
    have hlt : i < l.length := by omega
    unfold Y7.l0
    obtain ⟨q, rfl⟩ : ∃ q, k = q + 5 := ⟨k - 5, by omega⟩
    rw [if_pos (by omega), if_pos (by omega), Y1v hlt, Y3b, Option.bind_some, Y1S (by omega), List.drop_eq_getElem_cons hlt]
    show _ = some (if (if chk30 l[i] = 0 then Y1C (l.drop (i + 1)) else chk30 l[i]) = 0 then _ else (if chk30 l[i] = 0 then Y1C (l.drop (i + 1)) else chk30 l[i]))
    by_cases hz : chk30 l[i] = 0
    · rw [if_pos hz, if_pos (show chkE _ _ _ _ _ _ _ _ _ _ _ _ _ = 0 from hz), Y4w d l hl m (i + 1) (q + 5) (by omega) (by omega) (by omega)]
    · rw [if_neg hz, if_neg (show ¬ chkE _ _ _ _ _ _ _ _ _ _ _ _ _ = 0 from hz), if_neg hz]
      rfl
theorem Y5v (k : Nat) (d : Int) (l : List S30) (hl : l.length ≤ 1000000) (hk : 4 * l.length + 20 ≤ k) : Y7.f k d l = some (rchkP d l) := by
  obtain ⟨k, rfl⟩ : ∃ j, k = j + 1 := ⟨k - 1, by omega⟩
  unfold Y7.f rchkP
  have h0 := Y4w d l hl l.length 0 k (by omega) (by omega) (by omega)
  rw [List.drop_zero] at h0
  by_cases h1 : d < 1
  · rw [if_pos h1, if_pos (Or.inl h1)]
    rfl
  · rw [if_neg h1]
    show (if decide (d > 64) = true then some 43 else if (l.length : Int) > 512 then some 3 else Y7.l0 k 0 d l) = _
    by_cases h2 : 64 < d
    · rw [if_pos (Or.inr h2), if_pos (decide_eq_true h2)]
    · rw [if_neg (show ¬ (d < 1 ∨ 64 < d) by omega), if_neg (show ¬ decide (d > 64) = true by simpa using h2)]
      by_cases h3 : 512 < l.length
      · rw [if_pos h3, if_pos (by omega)]
      · rw [if_neg h3, if_neg (by omega)]
        exact h0
theorem Y58 (l : List S30) (hl : l.length ≤ 1000000) (y : S30) : ∀ (m i k : Nat), l.length - i = m → i ≤ l.length → m + 1 ≤ k → Yr.l0 k l (i : Int) y.f0.f0 y.f0.f1 y.f1 y.f2.f0 y.f2.f1 y.f3 y.f4.f0 y.f4.f1 y.f4.f2 y.f4.f3 y.f4.f4 y.f4.f5 y.f4.f6 = some ((l.drop i).any (fun e => eqE e y))
  | 0, i, k, hm, hi, hk => by
    obtain ⟨k, rfl⟩ : ∃ j, k = j + 1 := ⟨k - 1, by omega⟩
    unfold Yr.l0
    rw [if_neg (by omega), List.drop_of_length_le (by omega)]
    rfl
  | m + 1, i, k, hm, hi, hk => by
    obtain ⟨k, rfl⟩ : ∃ j, k = j + 1 := ⟨k - 1, by omega⟩
    have hlt : i < l.length := by omega
    unfold Yr.l0
    rw [if_pos (by omega), if_pos (by omega), Y1v hlt, Y1S (by omega), List.drop_eq_getElem_cons hlt, List.any_cons, Y58 l hl y m (i + 1) k (by omega) (by omega) (by omega)]
    show (if eqE l[i] y = true then _ else _) = _
    cases eqE l[i] y
    · rw [if_neg (by decide), Bool.false_or]
    · rw [if_pos rfl, Bool.true_or]
theorem Y5H (k : Nat) (l : List S30) (hl : l.length ≤ 1000000) (y : S30) (hk : l.length + 1 ≤ k) : Yr.f k l y.f0.f0 y.f0.f1 y.f1 y.f2.f0 y.f2.f1 y.f3 y.f4.f0 y.f4.f1 y.f4.f2 y.f4.f3 y.f4.f4 y.f4.f5 y.f4.f6 = some (l.any (fun e => eqE e y)) := by
  have := Y58 l hl y l.length 0 k (by omega) (by omega) hk
  rw [List.drop_zero] at this
  exact this
def stE (c d : Int) (e : S30) : Bool := e.f0.f0 == c && (e.f0.f1 == d)
theorem Y2M (l : List S30) (hl : l.length ≤ 1000000) (c d : Int) : ∀ (m i k : Nat), l.length - i = m → i ≤ l.length → m + 1 ≤ k → Yn.l0 k l (i : Int) c d = some ((l.drop i).any (stE c d))
  | 0, i, k, hm, hi, hk => by
    obtain ⟨k, rfl⟩ : ∃ j, k = j + 1 := ⟨k - 1, by omega⟩
    unfold Yn.l0
    rw [if_neg (by omega), List.drop_of_length_le (by omega)]
    rfl
  | m + 1, i, k, hm, hi, hk => by
    obtain ⟨k, rfl⟩ : ∃ j, k = j + 1 := ⟨k - 1, by omega⟩
    have hlt : i < l.length := by omega
    unfold Yn.l0
    rw [if_pos (by omega), if_pos (by omega), Y1v hlt, Y1S (by omega), List.drop_eq_getElem_cons hlt, List.any_cons, Y2M l hl c d m (i + 1) k (by omega) (by omega) (by omega)]
    show (if stE c d l[i] = true then _ else _) = _
    cases stE c d l[i]
    · rw [if_neg (by decide), Bool.false_or]
    · rw [if_pos rfl, Bool.true_or]
theorem Y3W (k : Nat) (l : List S30) (hl : l.length ≤ 1000000) (c d : Int) (hk : l.length + 1 ≤ k) : Yn.f k l c d = some (l.any (stE c d)) := by
  have := Y2M l hl c d l.length 0 k (by omega) (by omega) hk
  rw [List.drop_zero] at this
  exact this
def insP (y : S30) : List S30 → List S30
  | [] => [y]
  | x :: t => if lessP y.f0.f0 y.f0.f1 x.f0.f0 x.f0.f1 = true then y :: x :: t else x :: insP y t
def dnP (y : S30) (l : List S30) : Bool → List S30
  | true => l
  | false => insP y l
theorem Y4v (l : List S30) (hl : l.length ≤ 1000000) (y : S30) : ∀ (m i k : Nat) (acc : List S30) (done : Bool), l.length - i = m → i ≤ l.length → m + 1 ≤ k → acc.length ≤ 2 * i → Yh.l0 k l acc done (i : Int) y.f0.f0 y.f0.f1 y.f1 y.f2.f0 y.f2.f1 y.f3 y.f4.f0 y.f4.f1 y.f4.f2 y.f4.f3 y.f4.f4 y.f4.f5 y.f4.f6 = some (acc ++ dnP y (l.drop i) done)
  | 0, i, k, acc, done, hm, hi, hk, ha => by
    obtain ⟨k, rfl⟩ : ∃ j, k = j + 1 := ⟨k - 1, by omega⟩
    unfold Yh.l0
    rw [if_neg (by omega), List.drop_of_length_le (by omega)]
    cases done
    · rw [if_neg (show ¬ (false = true) by decide), if_pos (by omega)]
      rfl
    · rw [if_pos rfl]
      show _ = some (acc ++ [])
      rw [List.append_nil]
  | m + 1, i, k, acc, done, hm, hi, hk, ha => by
    obtain ⟨k, rfl⟩ : ∃ j, k = j + 1 := ⟨k - 1, by omega⟩
    have hlt : i < l.length := by omega
    unfold Yh.l0
    rw [if_pos (by omega), Y1v hlt, Y1S (by omega)]
    have hd := List.drop_eq_getElem_cons hlt
    have ih := Y4v l hl y m (i + 1) k
    rw [hd]
    cases done
    · rw [if_neg (show ¬ (false = true) by decide), if_pos (by omega), Y30, Option.bind_some]
      show _ = some (acc ++ (if lessP y.f0.f0 y.f0.f1 l[i].f0.f0 l[i].f0.f1 = true then y :: l[i] :: l.drop (i + 1) else l[i] :: insP y (l.drop (i + 1))))
      by_cases hq : lessP y.f0.f0 y.f0.f1 l[i].f0.f0 l[i].f0.f1 = true
      · rw [if_pos hq, if_pos hq, if_pos (by omega), Option.bind_some, if_pos (by simp; omega), ih _ true (by omega) (by omega) (by omega) (by simp; omega), List.append_assoc, List.append_assoc]
        rfl
      · rw [if_neg hq, if_neg hq, if_pos (by omega), ih _ false (by omega) (by omega) (by omega) (by simp; omega), List.append_assoc]
        rfl
    · rw [if_pos rfl, if_pos (by omega), if_pos (by omega), ih _ true (by omega) (by omega) (by omega) (by simp; omega), List.append_assoc]
      rfl
theorem Y5x (k : Nat) (l : List S30) (hl : l.length ≤ 1000000) (y : S30) (hk : l.length + 1 ≤ k) : Yh.f k l y.f0.f0 y.f0.f1 y.f1 y.f2.f0 y.f2.f1 y.f3 y.f4.f0 y.f4.f1 y.f4.f2 y.f4.f3 y.f4.f4 y.f4.f5 y.f4.f6 = some (insP y l) := by
  have := Y4v l hl y l.length 0 k [] false (by omega) (by omega) hk (by simp)
  rw [List.drop_zero] at this
  exact this
theorem Y3N {a b c d e f : Int} (h : lessP a b c d = true) (g : lessP c d e f = true) : lessP a b e f = true := by
  unfold lessP at *
  simp only [decide_eq_true_eq] at *
  omega
theorem Y3G {x : S30} {t : List S30} (h : ord30 (x :: t) = true) : ord30 t = true ∧ ∀ e ∈ t, Y1F x.f0 e.f0 = true := by
  induction t generalizing x with
  | nil => exact ⟨rfl, fun e he => by cases he⟩
  | cons z t ih =>
    have h2 : (Y1F x.f0 z.f0 && ord30 (z :: t)) = true := h
    rw [Bool.and_eq_true] at h2
    obtain ⟨g1, g2⟩ := ih h2.2
    refine ⟨h2.2, fun e he => ?_⟩
    rcases List.mem_cons.1 he with rfl | he
    · exact h2.1
    · exact Y3N h2.1 (g2 e he)
theorem Y3e (c d : Int) (e : S30) : stE c d e = true ↔ e.f0.f0 = c ∧ e.f0.f1 = d := by unfold stE; simp
theorem Y4e {x y : S30} (h : eqE x y = true) : stE y.f0.f0 y.f0.f1 x = true := by
  unfold eqE at h
  unfold stE
  rw [Bool.and_eq_true] at h
  exact h.1
theorem Y3r (c d : Int) : ∀ l : List S30, ord30 l = true → l.any (stE c d) = thrP c d l
  | [], _ => rfl
  | x :: t, h => by
    obtain ⟨h1, h2⟩ := Y3G h
    have ih := Y3r c d t h1
    by_cases hq : lessP x.f0.f0 x.f0.f1 c d = true
    · have e1 : plcP c d (x :: t) = plcP c d t + 1 := by rw [plcP, if_pos hq]
      have e2 : stE c d x = false := by
        rw [← Bool.not_eq_true, Y3e]
        unfold lessP at hq
        simp only [decide_eq_true_eq] at hq
        omega
      rw [List.any_cons, e2, Bool.false_or, ih]
      unfold thrP
      rw [e1, List.getElem?_cons_succ]
    · have e1 : plcP c d (x :: t) = 0 := by rw [plcP, if_neg hq]
      have e3 : t.any (stE c d) = false := by
        rw [List.any_eq_false]
        intro e he hs
        have hl := h2 e he
        rw [Y3e] at hs
        unfold Y1F lessP at hl
        unfold lessP at hq
        simp only [decide_eq_true_eq] at hl hq
        omega
      rw [List.any_cons, e3, Bool.or_false]
      unfold thrP
      rw [e1, List.getElem?_cons_zero]
      rfl
theorem Y57 (y : S30) : ∀ l : List S30, ord30 l = true → thrP y.f0.f0 y.f0.f1 l = true → ∀ h : plcP y.f0.f0 y.f0.f1 l < l.length, l.any (fun e => eqE e y) = eqE (l[plcP y.f0.f0 y.f0.f1 l]'h) y
  | [], _, ht, _ => by cases ht
  | x :: t, ho, ht, h => by
    obtain ⟨h1, h2⟩ := Y3G ho
    by_cases hq : lessP x.f0.f0 x.f0.f1 y.f0.f0 y.f0.f1 = true
    · have e1 : plcP y.f0.f0 y.f0.f1 (x :: t) = plcP y.f0.f0 y.f0.f1 t + 1 := by rw [plcP, if_pos hq]
      have e2 : eqE x y = false := by
        rw [← Bool.not_eq_true]
        intro he
        have := Y4e he
        rw [Y3e] at this
        unfold lessP at hq
        simp only [decide_eq_true_eq] at hq
        omega
      have ht2 : thrP y.f0.f0 y.f0.f1 t = true := by
        unfold thrP at ht ⊢
        rw [e1, List.getElem?_cons_succ] at ht
        exact ht
      simp only [e1, List.getElem_cons_succ]
      rw [List.any_cons, e2, Bool.false_or, Y57 y t h1 ht2 (Y3q ht2)]
    · have e1 : plcP y.f0.f0 y.f0.f1 (x :: t) = 0 := by rw [plcP, if_neg hq]
      have e3 : t.any (fun e => eqE e y) = false := by
        rw [List.any_eq_false]
        intro e he hs
        have hl := h2 e he
        have := Y4e hs
        rw [Y3e] at this
        unfold Y1F lessP at hl
        unfold lessP at hq
        simp only [decide_eq_true_eq] at hl hq
        omega
      simp only [e1, List.getElem_cons_zero]
      rw [List.any_cons, e3, Bool.or_false]
theorem Y59 (y : S30) : ∀ l : List S30, l.any (stE y.f0.f0 y.f0.f1) = false → insP y l = l.take (plcP y.f0.f0 y.f0.f1 l) ++ y :: l.drop (plcP y.f0.f0 y.f0.f1 l)
  | [], _ => rfl
  | x :: t, h => by
    rw [List.any_cons, Bool.or_eq_false_iff] at h
    have hs : ¬ (x.f0.f0 = y.f0.f0 ∧ x.f0.f1 = y.f0.f1) := by rw [← Y3e, h.1]; decide
    have ih := Y59 y t h.2
    by_cases hq : lessP x.f0.f0 x.f0.f1 y.f0.f0 y.f0.f1 = true
    · have e1 : plcP y.f0.f0 y.f0.f1 (x :: t) = plcP y.f0.f0 y.f0.f1 t + 1 := by rw [plcP, if_pos hq]
      have e2 : ¬ lessP y.f0.f0 y.f0.f1 x.f0.f0 x.f0.f1 = true := by
        unfold lessP at *
        simp only [decide_eq_true_eq] at *
        omega
      rw [e1, insP, if_neg e2, ih]
      rfl
    · have e1 : plcP y.f0.f0 y.f0.f1 (x :: t) = 0 := by rw [plcP, if_neg hq]
      have e2 : lessP y.f0.f0 y.f0.f1 x.f0.f0 x.f0.f1 = true := by
        unfold lessP at *
        simp only [decide_eq_true_eq] at *
        omega
      rw [e1, insP, if_pos e2]
      rfl
theorem Y4Z {d : Int} {l : List S30} (h : rchkP d l = 0) : ord30 l = true ∧ l.length ≤ 512 ∧ Y1C l = 0 ∧ l.all (kno30 l) = true ∧ 1 ≤ d ∧ d ≤ 64 := by
  unfold rchkP at h
  split at h
  · cases h
  · split at h
    · cases h
    · split at h
      · split at h
        · split at h
          · exact ⟨by assumption, by omega, by assumption, by assumption, by omega, by omega⟩
          · cases h
        · cases h
      · exact absurd h (by assumption)
theorem Y5u (k : Nat) (d : Int) (l : List S30) (hl : l.length ≤ 1000000) (y : S30) (hk : 4 * l.length + 30 ≤ k) : Yk.f k d l y.f0.f0 y.f0.f1 y.f1 y.f2.f0 y.f2.f1 y.f3 y.f4.f0 y.f4.f1 y.f4.f2 y.f4.f3 y.f4.f4 y.f4.f5 y.f4.f6 = some (addP d l y) := by
  unfold Yk.f addP
  rw [Y5v k d l hl (by omega), Option.bind_some]
  by_cases h1 : rchkP d l = 0
  rotate_left
  · rw [if_neg h1, if_neg h1]
  obtain ⟨ho, h512, _⟩ := Y4Z h1
  obtain ⟨q, rfl⟩ : ∃ q, k = q + 5 := ⟨k - 5, by omega⟩
  rw [if_pos h1, if_pos h1, Y3b, Option.bind_some, show chkE y.f0.f0 y.f0.f1 y.f1 y.f2.f0 y.f2.f1 y.f3 y.f4.f0 y.f4.f1 y.f4.f2 y.f4.f3 y.f4.f4 y.f4.f5 y.f4.f6 = chk30 y from rfl]
  by_cases h2 : chk30 y = 0
  rotate_left
  · rw [if_neg h2, if_neg h2]
  rw [if_pos h2, if_pos h2, Y5H _ l hl y (by omega), Option.bind_some, Y3W _ l hl _ _ (by omega), Y3r _ _ l ho]
  by_cases ht : thrP y.f0.f0 y.f0.f1 l = true
  · have hp := Y3q ht
    rw [if_pos ht, Y57 y l ho ht hp, Y1v hp]
    by_cases he : eqE (l[plcP y.f0.f0 y.f0.f1 l]'hp) y = true
    · rw [if_pos he, if_pos he]
      unfold Y11.f
      rw [if_pos (by simp; omega), Option.bind_some]
      rfl
    · rw [if_neg he, if_neg he, Option.bind_some, if_pos ht]
  · have hn : l.any (stE y.f0.f0 y.f0.f1) = false := by rw [Y3r _ _ l ho]; simpa using ht
    have hh : l.any (fun e => eqE e y) = false := by
      rw [List.any_eq_false] at hn ⊢
      exact fun e he hs => hn e he (Y4e hs)
    rw [hh, if_neg (by decide), Option.bind_some, if_neg ht, if_neg ht, Y2D _ l hl y (by omega), Option.bind_some]
    have hj : ∀ b : Bool, Yk.j0 (q + 5) b d l y.f0.f0 y.f0.f1 y.f1 y.f2.f0 y.f2.f1 y.f3 y.f4.f0 y.f4.f1 y.f4.f2 y.f4.f3 y.f4.f4 y.f4.f5 y.f4.f6 = some (if b = true then (0, [], 6) else if 512 ≤ l.length then (0, [], 3) else (d, l.take (plcP y.f0.f0 y.f0.f1 l) ++ y :: l.drop (plcP y.f0.f0 y.f0.f1 l), 0)) := fun b => by
      show (if b = true then some (0, [], 6) else (if (l.length : Int) ≥ 512 then some (0, [], 3) else ((Yh.f (q + 4) l y.f0.f0 y.f0.f1 y.f1 y.f2.f0 y.f2.f1 y.f3 y.f4.f0 y.f4.f1 y.f4.f2 y.f4.f3 y.f4.f4 y.f4.f5 y.f4.f6).bind fun t540 => some (d, t540, 0)))) = _
      cases b
      · rw [if_neg (show ¬ (false = true) by decide), if_neg (show ¬ (false = true) by decide)]
        by_cases h5 : 512 ≤ l.length
        · rw [if_pos h5, if_pos (by omega)]
        · rw [if_neg h5, if_neg (by omega), Y5x _ l hl y (by omega), Option.bind_some, Y59 y l hn]
      · rw [if_pos rfl, if_pos rfl]
    have hjF : Yk.j0 (q + 5) false d l y.f0.f0 y.f0.f1 y.f1 y.f2.f0 y.f2.f1 y.f3 y.f4.f0 y.f4.f1 y.f4.f2 y.f4.f3 y.f4.f4 y.f4.f5 y.f4.f6 = some (if 512 ≤ l.length then (0, [], 3) else (d, l.take (plcP y.f0.f0 y.f0.f1 l) ++ y :: l.drop (plcP y.f0.f0 y.f0.f1 l), 0)) := hj false
    have hjT : Yk.j0 (q + 5) true d l y.f0.f0 y.f0.f1 y.f1 y.f2.f0 y.f2.f1 y.f3 y.f4.f0 y.f4.f1 y.f4.f2 y.f4.f3 y.f4.f4 y.f4.f5 y.f4.f6 = some (0, [], 6) := hj true
    by_cases hk2 : kno30 l y = true
    · rw [if_pos hk2, hjF, if_neg (show ¬ (fndsE y = false ∧ kno30 l y = false) from fun h => by rw [hk2] at h; cases h.2)]
    · rw [if_neg hk2, Y37, Option.bind_some, Y4f]
      have hk3 : kno30 l y = false := by simpa using hk2
      cases hf : fndsE y
      · rw [Bool.not_false, hjT, if_pos ⟨rfl, hk3⟩]
      · rw [Bool.not_true, hjF, if_neg (show ¬ (true = false ∧ kno30 l y = false) from fun h => by cases h.1)]
def zN (n : Int) : Prop := -9223372036854775808 ≤ n ∧ n ≤ 9223372036854775807
def zT26 (x : S26) : Prop := zN x.f0 ∧ zN x.f1
def zT28 (x : S28) : Prop := zN x.f0 ∧ zN x.f1 ∧ zN x.f2 ∧ zN x.f3 ∧ zN x.f4 ∧ zN x.f5 ∧ zN x.f6
def zT30 (x : S30) : Prop := zT26 x.f0 ∧ zN x.f1 ∧ zT26 x.f2 ∧ True ∧ zT28 x.f4
theorem zN_ok {n : Int} (h : zN n) : okN n := by
  have e1 : IntKind.i64.min = -9223372036854775808 := rfl
  have e2 : IntKind.i64.max = 9223372036854775807 := rfl
  unfold okN
  simp only [Lit.wf, e1, e2, Bool.and_eq_true, decide_eq_true_eq]
  exact h
theorem zT_ok {x : S30} (h : zT30 x) : okE30 x := by
  obtain ⟨_, c, ⟨d, e⟩, _⟩ := h
  exact ⟨zN_ok c, zN_ok d, zN_ok e⟩
theorem Y2f (l : List S30) (hl : l.length ≤ 1000000) : ∀ (m i k : Nat), l.length - i = m → i ≤ l.length → m + 1 ≤ k → Ym.l0 k l l (i : Int) = some true
  | 0, i, k, hm, hi, hk => by
    obtain ⟨k, rfl⟩ : ∃ j, k = j + 1 := ⟨k - 1, by omega⟩
    unfold Ym.l0
    rw [if_neg (by omega)]
  | m + 1, i, k, hm, hi, hk => by
    obtain ⟨k, rfl⟩ : ∃ j, k = j + 1 := ⟨k - 1, by omega⟩
    unfold Ym.l0
    rw [if_pos (by omega), if_pos (by omega), if_pos (by omega), if_neg (by simp), show wrap64 ((i : Int) + 1) = ((i + 1 : Nat) : Int) by unfold wrap64; omega]
    exact Y2f l hl m (i + 1) k (by omega) (by omega) (by omega)
theorem Y3j (k : Nat) (l : List S30) (hl : l.length ≤ 1000000) (hk : l.length + 1 ≤ k) : Ym.f k l l = some true := by
  unfold Ym.f
  rw [if_pos rfl]
  exact Y2f l hl l.length 0 k (by omega) (by omega) hk
theorem Y3U (k : Nat) (d : Int) (l : List S30) (hl : l.length ≤ 1000000) (hk : l.length + 1 ≤ k) : YK.f k d l d l = some true := by
  unfold YK.f
  rw [if_pos rfl, Y3j k l hl hk]
  rfl
theorem Y3x (d : Int) (l : List S30) (y : S30) : (addP d l y).2.1.length ≤ l.length + 1 := by
  unfold addP
  split
  · split
    · split
      · split
        · simp
        · simp
      · split
        · simp
        · split
          · simp
          · simp; omega
    · simp
  · simp
end Go.Proofs.Yteopkkoblbmggaa.P
end
section
set_option linter.unusedVariables false
set_option linter.unusedSimpArgs false
namespace Go.Proofs.Yteopkkoblbmggaa.Pure
open Go.RowKit Go.Proofs.Yteopkkoblbmggaa.P Go.Proofs.Yteopkkoblbmggaa.Open Go.Proofs.YteopkkoblbmggaaW.PrintWords Go.Proofs.YteopkkoblbmggaaW.PrintLast Go.Proofs.YteopkkoblbmggaaW.PrintMore
theorem ReplicaAdd (a0_0 : Int) (l0_1 : List S30) (a1_0 : Int) (a1_1 : Int) (a1_2 : Int) (a1_3 : Int) (a1_4 : Int) (a1_5 : Bool) (a1_6 : Int) (a1_7 : Int) (a1_8 : Int) (a1_9 : Int) (a1_10 : Int) (a1_11 : Int) (a1_12 : Int) (w0_0 : okI a0_0) (w0_1 : l0_1.length ≤ maxLen ∧ l0_1.length * 104 ≤ 140737488351232 ∧ ∀ y ∈ l0_1, zT30 y) (w1_0 : okI a1_0) (w1_1 : okI a1_1) (w1_2 : okI a1_2) (w1_3 : okI a1_3) (w1_4 : okI a1_4) (w1_6 : okI a1_6) (w1_7 : okI a1_7) (w1_8 : okI a1_8) (w1_9 : okI a1_9) (w1_10 : okI a1_10) (w1_11 : okI a1_11) (w1_12 : okI a1_12) : ∃ k, YI.f k a0_0 l0_1 a1_0 a1_1 a1_2 a1_3 a1_4 a1_5 a1_6 a1_7 a1_8 a1_9 a1_10 a1_11 a1_12 = some true := by
  refine ⟨6000, ?_⟩
  unfold YI.f
  obtain ⟨b, hb, hl⟩ := Y5L a0_0 l0_1
  rw [hb, Option.bind_some]
  cases b
  · have hl := hl rfl
    have hv : (∀ e ∈ l0_1, okE30 e) ∧ okE30 (mk30 a1_0 a1_1 a1_2 a1_3 a1_4 a1_5 a1_6 a1_7 a1_8 a1_9 a1_10 a1_11 a1_12) := ⟨fun e he => zT_ok (w0_1.2.2 e he), zN_ok w1_2, zN_ok w1_3, zN_ok w1_4⟩
    have hr := Y5u 6000 a0_0 l0_1 (by omega) (mk30 a1_0 a1_1 a1_2 a1_3 a1_4 a1_5 a1_6 a1_7 a1_8 a1_9 a1_10 a1_11 a1_12) (by omega)
    simp only [mk30] at hr
    rw [if_neg (by decide)]
    unfold YC.f
    rw [if_pos hv, Option.bind_some, hr, Option.bind_some]
    have hs := Y3U 6000 (addP a0_0 l0_1 (mk30 a1_0 a1_1 a1_2 a1_3 a1_4 a1_5 a1_6 a1_7 a1_8 a1_9 a1_10 a1_11 a1_12)).1 (addP a0_0 l0_1 (mk30 a1_0 a1_1 a1_2 a1_3 a1_4 a1_5 a1_6 a1_7 a1_8 a1_9 a1_10 a1_11 a1_12)).2.1 (by have := Y3x a0_0 l0_1 (mk30 a1_0 a1_1 a1_2 a1_3 a1_4 a1_5 a1_6 a1_7 a1_8 a1_9 a1_10 a1_11 a1_12); omega) (by have := Y3x a0_0 l0_1 (mk30 a1_0 a1_1 a1_2 a1_3 a1_4 a1_5 a1_6 a1_7 a1_8 a1_9 a1_10 a1_11 a1_12); omega)
    simp only [mk30] at hs
    simp only [mk30]
    rw [hs, Option.bind_some, if_pos rfl, if_pos trivial, Y2B 6000 (by decide)]
    rfl
  · rw [if_pos rfl, Y2B 6000 (by decide)]; rfl
end Go.Proofs.Yteopkkoblbmggaa.Pure
end

/- Texts of this claim in one: VRAddP, VMisP, VMrgP, VOrdP, VRMrgP, VSamR, PureReplicaMerge; no condition. -/
import Derived.Test.YteopkkoblbmggaaGreatQZAE
import Derived.Test.YteopkkoblbmggaaGreatQZAF
import Derived.Test.YteopkkoblbmggaaGreatQZAH
import Derived.Test.YteopkkoblbmggaaGreatQZAT
import Derived.Test.YteopkkoblbmggaaGreatQZAU
import Derived.Test.YteopkkoblbmggaaGreatQZAV
import Derived.Test.YteopkkoblbmggaaGreatQZAK
import Derived.Test.YteopkkoblbmggaaGreatQZAJ
import Derived.Test.YteopkkoblbmggaaGreatQZAZ
import Derived.Test.YteopkkoblbmggaaGreatQZAI
import Derived.Test.YteopkkoblbmggaaGreatQZAQ
import Derived.Test.YteopkkoblbmggaaGreatQZAX
import Derived.Test.YteopkkoblbmggaaGreatQZAN
import Derived.Test.YteopkkoblbmggaaGreatQZAR
import Derived.Test.YteopkkoblbmggaaGreatQZAW
import Derived.Test.YteopkkoblbmggaaGreatQZAY
import Derived.Test.YteopkkoblbmggaaGreatQZAP
section
set_option linter.unusedVariables false
set_option linter.unusedSimpArgs false
namespace Go.Proofs.YteopkkoblbmggaaGreat.P
open Go.RowKit Go.Proofs.YteopkkoblbmggaaGreatW.PrintWords Go.Proofs.YteopkkoblbmggaaGreatW.PrintLast Go.Proofs.YteopkkoblbmggaaGreatW.PrintMore
theorem Y1M {i : Nat} (h : i ≤ 2000000) : wrap64 ((i : Int) + 1) = ((i + 1 : Nat) : Int) := by unfold wrap64; omega
def fndB (x y : S52) : Bool := fndsE x && decide (y.f1 = x.f1 ∧ y.f2.f0 = x.f2.f0 ∧ y.f2.f1 = x.f2.f1)
theorem Y4E (x y : S52) : Y16.f x.f0.f0 x.f0.f1 x.f1 x.f2.f0 x.f2.f1 x.f3 x.f4.f0 x.f4.f1 x.f4.f2 x.f4.f3 x.f4.f4 x.f4.f5 x.f4.f6 y.f0.f0 y.f0.f1 y.f1 y.f2.f0 y.f2.f1 y.f3 y.f4.f0 y.f4.f1 y.f4.f2 y.f4.f3 y.f4.f4 y.f4.f5 y.f4.f6 = some (fndB x y) := by
  unfold Y16.f; by_cases h1 : x.f1 = y.f1
  · rw [if_pos h1]
    by_cases h3 : x.f3 = true
    · rw [if_pos h3]
      congr 1
      unfold fndB fndsE; rw [h3]; rfl
    · rw [if_neg h3]
      have h3' : x.f3 = false := by simpa using h3
      by_cases h4 : (x.f0.f0 == y.f2.f0 && (x.f0.f1 == y.f2.f1)) = true
      · rw [if_pos h4]
        congr 1
        rw [Bool.eq_iff_iff]; simp only [Bool.and_eq_true, beq_iff_eq] at h4
        simp [fndB, fndsE, h3']
        omega
      · rw [if_neg h4]
        congr 1
        symm
        rw [← Bool.not_eq_true]; simp only [Bool.and_eq_true, beq_iff_eq] at h4
        simp [fndB, fndsE, h3']
        omega
  · rw [if_neg h1]
    congr 1
    symm
    rw [← Bool.not_eq_true]
    simp [fndB]
    intro _ h; exact absurd h.symm h1
theorem Y2W (l : List S52) (hl : l.length ≤ 1000000) (y : S52) : ∀ (m i k : Nat), l.length - i = m → i ≤ l.length → m + 1 ≤ k → Yn.l0 k l (i : Int) y.f0.f0 y.f0.f1 y.f1 y.f2.f0 y.f2.f1 y.f3 y.f4.f0 y.f4.f1 y.f4.f2 y.f4.f3 y.f4.f4 y.f4.f5 y.f4.f6 = some ((l.drop i).any (fun e => fndB e y))
  | 0, i, k, hm, hi, hk => by
    obtain ⟨k, rfl⟩ : ∃ j, k = j + 1 := ⟨k - 1, by omega⟩; unfold Yn.l0; rw [if_neg (by omega), List.drop_of_length_le (by omega)]; rfl
  | m + 1, i, k, hm, hi, hk => by
    obtain ⟨k, rfl⟩ : ∃ j, k = j + 1 := ⟨k - 1, by omega⟩; have hlt : i < l.length := by omega
    unfold Yn.l0; rw [if_pos (by omega), if_pos (by omega), Y1k hlt, Y4E, Option.bind_some, Y1M (by omega), List.drop_eq_getElem_cons hlt, List.any_cons]; cases fndB l[i] y
    · rw [if_neg (by decide), Y2W l hl y m (i + 1) k (by omega) (by omega) (by omega), Bool.false_or]
    · rw [if_pos rfl, Bool.true_or]
theorem Y44 (k : Nat) (l : List S52) (hl : l.length ≤ 1000000) (y : S52) (hk : l.length + 1 ≤ k) : Yn.f k l y.f0.f0 y.f0.f1 y.f1 y.f2.f0 y.f2.f1 y.f3 y.f4.f0 y.f4.f1 y.f4.f2 y.f4.f3 y.f4.f4 y.f4.f5 y.f4.f6 = some (kno52 l y) := by
  have := Y2W l hl y l.length 0 k (by omega) (by omega) hk; rw [List.drop_zero] at this; exact this
theorem Y4X (d : Int) (l : List S52) (hl : l.length ≤ 1000000) : ∀ (m i k : Nat), l.length - i = m → i ≤ l.length → m + l.length + 2 ≤ k → Y6.l2 k (i : Int) d l = some (if (l.drop i).all (kno52 l) = true then 0 else 6)
  | 0, i, k, hm, hi, hk => by
    obtain ⟨k, rfl⟩ : ∃ j, k = j + 1 := ⟨k - 1, by omega⟩; unfold Y6.l2; rw [if_neg (by omega), List.drop_of_length_le (by omega)]; rfl
  | m + 1, i, k, hm, hi, hk => by
    obtain ⟨k, rfl⟩ : ∃ j, k = j + 1 := ⟨k - 1, by omega⟩; have hlt : i < l.length := by omega
    unfold Y6.l2; rw [if_pos (by omega), if_pos (by omega), Y1k hlt, Y44 k l hl l[i] (by omega), Option.bind_some, Y1M (by omega), List.drop_eq_getElem_cons hlt, List.all_cons]; cases kno52 l l[i]
    · rw [if_neg (by decide), Bool.false_and, if_neg (by decide)]
    · rw [if_pos rfl, Y4X d l hl m (i + 1) k (by omega) (by omega) (by omega), Bool.true_and]
theorem Y4W (d : Int) (l : List S52) (hl : l.length ≤ 1000000) : ∀ (m i k : Nat), l.length - i = m → 1 ≤ i → (i ≤ l.length ∨ i = 1) → m + 2 * l.length + 3 ≤ k → Y6.l1 k (i : Int) d l = some (if ord52 (l.drop (i - 1)) = true then (if l.all (kno52 l) = true then 0 else 6) else 5)
  | 0, i, k, hm, h1, hi, hk => by
    obtain ⟨k, rfl⟩ : ∃ j, k = j + 1 := ⟨k - 1, by omega⟩; unfold Y6.l1
    have ho : ord52 (l.drop (i - 1)) = true := by
      have : (l.drop (i - 1)).length ≤ 1 := by rw [List.length_drop]; omega
      match hd : l.drop (i - 1), this with
      | [], _ => rfl
      | [a], _ => rfl
      | a :: b :: t, h => simp at h
    rw [if_neg (by omega), ho, if_pos rfl]; have := Y4X d l hl l.length 0 k (by omega) (by omega) (by omega); rw [List.drop_zero] at this; exact this
  | m + 1, i, k, hm, h1, hi, hk => by
    obtain ⟨k, rfl⟩ : ∃ j, k = j + 1 := ⟨k - 1, by omega⟩; have hlt : i < l.length := by omega
    obtain ⟨p, rfl⟩ : ∃ p, i = p + 1 := ⟨i - 1, by omega⟩; have hlp : p < l.length := by omega
    unfold Y6.l1; have hw : wrap64 (((p + 1 : Nat) : Int) - 1) = (p : Int) := by unfold wrap64; omega
    rw [hw, if_pos (by omega), if_pos (by omega), if_pos (by omega), if_pos (by omega), Y1k hlp, Y1k hlt, Y3j, Option.bind_some, Y1M (by omega), Nat.add_sub_cancel, List.drop_eq_getElem_cons hlp, List.drop_eq_getElem_cons hlt]
    show _ = some (if (Y18 l[p].f0 l[p + 1].f0 && ord52 (l[p + 1] :: l.drop (p + 1 + 1))) = true then _ else _)
    have hd := List.drop_eq_getElem_cons hlt; rw [← hd]; unfold Y18; cases lessP l[p].f0.f0 l[p].f0.f1 l[p + 1].f0.f0 l[p + 1].f0.f1
    · rw [if_neg (by decide), Bool.false_and, if_neg (by decide)]
    · rw [if_pos rfl, Bool.true_and, Y4W d l hl m (p + 1 + 1) k (by omega) (by omega) (by omega) (by omega)]
      rfl
theorem Y4V (d : Int) (l : List S52) (hl : l.length ≤ 1000000) : ∀ (m i k : Nat), l.length - i = m → i ≤ l.length → m + 3 * l.length + 10 ≤ k → Y6.l0 k (i : Int) d l = some (if Y1N (l.drop i) = 0 then (if ord52 l = true then (if l.all (kno52 l) = true then 0 else 6) else 5) else Y1N (l.drop i))
  | 0, i, k, hm, hi, hk => by
    obtain ⟨k, rfl⟩ : ∃ j, k = j + 1 := ⟨k - 1, by omega⟩; unfold Y6.l0; rw [if_neg (by omega), List.drop_of_length_le (by omega)]; have := Y4W d l hl (l.length - 1) 1 k (by omega) (by omega) (by omega) (by omega); rw [show 1 - 1 = 0 from rfl, List.drop_zero] at this; exact this
  | m + 1, i, k, hm, hi, hk => by
    obtain ⟨k, rfl⟩ : ∃ j, k = j + 1 := ⟨k - 1, by omega⟩; have hlt : i < l.length := by omega
    unfold Y6.l0; obtain ⟨q, rfl⟩ : ∃ q, k = q + 5 := ⟨k - 5, by omega⟩; rw [if_pos (by omega), if_pos (by omega), Y1k hlt, Y4U, Option.bind_some, Y1M (by omega), List.drop_eq_getElem_cons hlt]
    show _ = some (if (if chk52 l[i] = 0 then Y1N (l.drop (i + 1)) else chk52 l[i]) = 0 then _ else (if chk52 l[i] = 0 then Y1N (l.drop (i + 1)) else chk52 l[i]))
    by_cases hz : chk52 l[i] = 0
    · rw [if_pos hz, if_pos (show chkE _ _ _ _ _ _ _ _ _ _ _ _ _ = 0 from hz), Y4V d l hl m (i + 1) (q + 5) (by omega) (by omega) (by omega)]
    · rw [if_neg hz, if_neg (show ¬ chkE _ _ _ _ _ _ _ _ _ _ _ _ _ = 0 from hz), if_neg hz]
      rfl
theorem Y1Z (k : Nat) (d : Int) (l : List S52) (hl : l.length ≤ 1000000) (hk : 4 * l.length + 20 ≤ k) : Y6.f k d l = some (rchkP d l) := by
  obtain ⟨k, rfl⟩ : ∃ j, k = j + 1 := ⟨k - 1, by omega⟩; unfold Y6.f rchkP; have h0 := Y4V d l hl l.length 0 k (by omega) (by omega) (by omega); rw [List.drop_zero] at h0; by_cases h1 : d < 1
  · rw [if_pos h1, if_pos (Or.inl h1)]
    rfl
  · rw [if_neg h1]
    show (if decide (d > 64) = true then some 43 else if (l.length : Int) > 512 then some 3 else Y6.l0 k 0 d l) = _
    by_cases h2 : 64 < d
    · rw [if_pos (Or.inr h2), if_pos (decide_eq_true h2)]
    · rw [if_neg (show ¬ (d < 1 ∨ 64 < d) by omega), if_neg (show ¬ decide (d > 64) = true by simpa using h2)]
      by_cases h3 : 512 < l.length
      · rw [if_pos h3, if_pos (by omega)]
      · rw [if_neg h3, if_neg (by omega)]
        exact h0
theorem Y5v (l : List S52) (hl : l.length ≤ 1000000) (y : S52) : ∀ (m i k : Nat), l.length - i = m → i ≤ l.length → m + 1 ≤ k → Yr.l0 k l (i : Int) y.f0.f0 y.f0.f1 y.f1 y.f2.f0 y.f2.f1 y.f3 y.f4.f0 y.f4.f1 y.f4.f2 y.f4.f3 y.f4.f4 y.f4.f5 y.f4.f6 = some ((l.drop i).any (fun e => eqE e y))
  | 0, i, k, hm, hi, hk => by
    obtain ⟨k, rfl⟩ : ∃ j, k = j + 1 := ⟨k - 1, by omega⟩; unfold Yr.l0; rw [if_neg (by omega), List.drop_of_length_le (by omega)]; rfl
  | m + 1, i, k, hm, hi, hk => by
    obtain ⟨k, rfl⟩ : ∃ j, k = j + 1 := ⟨k - 1, by omega⟩; have hlt : i < l.length := by omega
    unfold Yr.l0; rw [if_pos (by omega), if_pos (by omega), Y1k hlt, Y1M (by omega), List.drop_eq_getElem_cons hlt, List.any_cons, Y5v l hl y m (i + 1) k (by omega) (by omega) (by omega)]
    show (if eqE l[i] y = true then _ else _) = _
    cases eqE l[i] y
    · rw [if_neg (by decide), Bool.false_or]
    · rw [if_pos rfl, Bool.true_or]
theorem Y5u (k : Nat) (l : List S52) (hl : l.length ≤ 1000000) (y : S52) (hk : l.length + 1 ≤ k) : Yr.f k l y.f0.f0 y.f0.f1 y.f1 y.f2.f0 y.f2.f1 y.f3 y.f4.f0 y.f4.f1 y.f4.f2 y.f4.f3 y.f4.f4 y.f4.f5 y.f4.f6 = some (l.any (fun e => eqE e y)) := by
  have := Y5v l hl y l.length 0 k (by omega) (by omega) hk; rw [List.drop_zero] at this; exact this
def stE (c d : Int) (e : S52) : Bool := e.f0.f0 == c && (e.f0.f1 == d)
theorem Y35 (l : List S52) (hl : l.length ≤ 1000000) (c d : Int) : ∀ (m i k : Nat), l.length - i = m → i ≤ l.length → m + 1 ≤ k → Yp.l0 k l (i : Int) c d = some ((l.drop i).any (stE c d))
  | 0, i, k, hm, hi, hk => by
    obtain ⟨k, rfl⟩ : ∃ j, k = j + 1 := ⟨k - 1, by omega⟩; unfold Yp.l0; rw [if_neg (by omega), List.drop_of_length_le (by omega)]; rfl
  | m + 1, i, k, hm, hi, hk => by
    obtain ⟨k, rfl⟩ : ∃ j, k = j + 1 := ⟨k - 1, by omega⟩; have hlt : i < l.length := by omega
    unfold Yp.l0; rw [if_pos (by omega), if_pos (by omega), Y1k hlt, Y1M (by omega), List.drop_eq_getElem_cons hlt, List.any_cons, Y35 l hl c d m (i + 1) k (by omega) (by omega) (by omega)]
    show (if stE c d l[i] = true then _ else _) = _
    cases stE c d l[i]
    · rw [if_neg (by decide), Bool.false_or]
    · rw [if_pos rfl, Bool.true_or]
theorem Y4i (k : Nat) (l : List S52) (hl : l.length ≤ 1000000) (c d : Int) (hk : l.length + 1 ≤ k) : Yp.f k l c d = some (l.any (stE c d)) := by
  have := Y35 l hl c d l.length 0 k (by omega) (by omega) hk; rw [List.drop_zero] at this; exact this
def insP (y : S52) : List S52 → List S52
  | [] => [y]
  | x :: t => if lessP y.f0.f0 y.f0.f1 x.f0.f0 x.f0.f1 = true then y :: x :: t else x :: insP y t
def dnP (y : S52) (l : List S52) : Bool → List S52
  | true => l
  | false => insP y l
theorem Y4T (l : List S52) (hl : l.length ≤ 1000000) (y : S52) : ∀ (m i k : Nat) (acc : List S52) (done : Bool), l.length - i = m → i ≤ l.length → m + 1 ≤ k → acc.length ≤ 2 * i → Yk.l0 k l acc done (i : Int) y.f0.f0 y.f0.f1 y.f1 y.f2.f0 y.f2.f1 y.f3 y.f4.f0 y.f4.f1 y.f4.f2 y.f4.f3 y.f4.f4 y.f4.f5 y.f4.f6 = some (acc ++ dnP y (l.drop i) done)
  | 0, i, k, acc, done, hm, hi, hk, ha => by
    obtain ⟨k, rfl⟩ : ∃ j, k = j + 1 := ⟨k - 1, by omega⟩; unfold Yk.l0; rw [if_neg (by omega), List.drop_of_length_le (by omega)]; cases done
    · rw [if_neg (show ¬ (false = true) by decide), if_pos (by omega)]
      rfl
    · rw [if_pos rfl]
      show _ = some (acc ++ [])
      rw [List.append_nil]
  | m + 1, i, k, acc, done, hm, hi, hk, ha => by
    obtain ⟨k, rfl⟩ : ∃ j, k = j + 1 := ⟨k - 1, by omega⟩; have hlt : i < l.length := by omega
    unfold Yk.l0; rw [if_pos (by omega), Y1k hlt, Y1M (by omega)]; have hd := List.drop_eq_getElem_cons hlt; have ih := Y4T l hl y m (i + 1) k; rw [hd]; cases done
    · rw [if_neg (show ¬ (false = true) by decide), if_pos (by omega), Y3j, Option.bind_some]
      show _ = some (acc ++ (if lessP y.f0.f0 y.f0.f1 l[i].f0.f0 l[i].f0.f1 = true then y :: l[i] :: l.drop (i + 1) else l[i] :: insP y (l.drop (i + 1))))
      by_cases hq : lessP y.f0.f0 y.f0.f1 l[i].f0.f0 l[i].f0.f1 = true
      · rw [if_pos hq, if_pos hq, if_pos (by omega), Option.bind_some, if_pos (by simp; omega), ih _ true (by omega) (by omega) (by omega) (by simp; omega), List.append_assoc, List.append_assoc]
        rfl
      · rw [if_neg hq, if_neg hq, if_pos (by omega), ih _ false (by omega) (by omega) (by omega) (by simp; omega), List.append_assoc]
        rfl
    · rw [if_pos rfl, if_pos (by omega), if_pos (by omega), ih _ true (by omega) (by omega) (by omega) (by simp; omega), List.append_assoc]
      rfl
theorem Y5T (k : Nat) (l : List S52) (hl : l.length ≤ 1000000) (y : S52) (hk : l.length + 1 ≤ k) : Yk.f k l y.f0.f0 y.f0.f1 y.f1 y.f2.f0 y.f2.f1 y.f3 y.f4.f0 y.f4.f1 y.f4.f2 y.f4.f3 y.f4.f4 y.f4.f5 y.f4.f6 = some (insP y l) := by
  have := Y4T l hl y l.length 0 k [] false (by omega) (by omega) hk (by simp); rw [List.drop_zero] at this; exact this
theorem Y47 {a b c d e f : Int} (h : lessP a b c d = true) (g : lessP c d e f = true) : lessP a b e f = true := by
  unfold lessP at *; simp only [decide_eq_true_eq] at *; omega
theorem Y3X {x : S52} {t : List S52} (h : ord52 (x :: t) = true) : ord52 t = true ∧ ∀ e ∈ t, Y18 x.f0 e.f0 = true := by
  induction t generalizing x with
  | nil => exact ⟨rfl, fun e he => by cases he⟩
  | cons z t ih =>
    have h2 : (Y18 x.f0 z.f0 && ord52 (z :: t)) = true := h; rw [Bool.and_eq_true] at h2; obtain ⟨g1, g2⟩ := ih h2.2; refine ⟨h2.2, fun e he => ?_⟩; rcases List.mem_cons.1 he with rfl | he
    · exact h2.1
    · exact Y47 h2.1 (g2 e he)
theorem Y2f (c d : Int) (e : S52) : stE c d e = true ↔ e.f0.f0 = c ∧ e.f0.f1 = d := by unfold stE; simp
theorem Y5s {x y : S52} (h : eqE x y = true) : stE y.f0.f0 y.f0.f1 x = true := by
  unfold eqE at h; unfold stE; rw [Bool.and_eq_true] at h; exact h.1
theorem Y58 (c d : Int) : ∀ l : List S52, ord52 l = true → l.any (stE c d) = thrP c d l
  | [], _ => rfl
  | x :: t, h => by
    obtain ⟨h1, h2⟩ := Y3X h; have ih := Y58 c d t h1; by_cases hq : lessP x.f0.f0 x.f0.f1 c d = true
    · have e1 : plcP c d (x :: t) = plcP c d t + 1 := by rw [plcP, if_pos hq]
      have e2 : stE c d x = false := by
        rw [← Bool.not_eq_true, Y2f]; unfold lessP at hq; simp only [decide_eq_true_eq] at hq; omega
      rw [List.any_cons, e2, Bool.false_or, ih]; unfold thrP; rw [e1, List.getElem?_cons_succ]
    · have e1 : plcP c d (x :: t) = 0 := by rw [plcP, if_neg hq]
      have e3 : t.any (stE c d) = false := by
        rw [List.any_eq_false]; intro e he hs; have hl := h2 e he; rw [Y2f] at hs; unfold Y18 lessP at hl; unfold lessP at hq; simp only [decide_eq_true_eq] at hl hq; omega
      rw [List.any_cons, e3, Bool.or_false]; unfold thrP; rw [e1, List.getElem?_cons_zero]; rfl
theorem Y5t (y : S52) : ∀ l : List S52, ord52 l = true → thrP y.f0.f0 y.f0.f1 l = true → ∀ h : plcP y.f0.f0 y.f0.f1 l < l.length, l.any (fun e => eqE e y) = eqE (l[plcP y.f0.f0 y.f0.f1 l]'h) y
  | [], _, ht, _ => by cases ht
  | x :: t, ho, ht, h => by
    obtain ⟨h1, h2⟩ := Y3X ho; by_cases hq : lessP x.f0.f0 x.f0.f1 y.f0.f0 y.f0.f1 = true
    · have e1 : plcP y.f0.f0 y.f0.f1 (x :: t) = plcP y.f0.f0 y.f0.f1 t + 1 := by rw [plcP, if_pos hq]
      have e2 : eqE x y = false := by
        rw [← Bool.not_eq_true]; intro he; have := Y5s he; rw [Y2f] at this; unfold lessP at hq; simp only [decide_eq_true_eq] at hq; omega
      have ht2 : thrP y.f0.f0 y.f0.f1 t = true := by
        unfold thrP at ht ⊢; rw [e1, List.getElem?_cons_succ] at ht; exact ht
      simp only [e1, List.getElem_cons_succ]; rw [List.any_cons, e2, Bool.false_or, Y5t y t h1 ht2 (Y3L ht2)]
    · have e1 : plcP y.f0.f0 y.f0.f1 (x :: t) = 0 := by rw [plcP, if_neg hq]
      have e3 : t.any (fun e => eqE e y) = false := by
        rw [List.any_eq_false]; intro e he hs; have hl := h2 e he; have := Y5s hs; rw [Y2f] at this; unfold Y18 lessP at hl; unfold lessP at hq; simp only [decide_eq_true_eq] at hl hq; omega
      simp only [e1, List.getElem_cons_zero]; rw [List.any_cons, e3, Bool.or_false]
theorem Y5w (y : S52) : ∀ l : List S52, l.any (stE y.f0.f0 y.f0.f1) = false → insP y l = l.take (plcP y.f0.f0 y.f0.f1 l) ++ y :: l.drop (plcP y.f0.f0 y.f0.f1 l)
  | [], _ => rfl
  | x :: t, h => by
    rw [List.any_cons, Bool.or_eq_false_iff] at h; have hs : ¬ (x.f0.f0 = y.f0.f0 ∧ x.f0.f1 = y.f0.f1) := by rw [← Y2f, h.1]; decide
    have ih := Y5w y t h.2; by_cases hq : lessP x.f0.f0 x.f0.f1 y.f0.f0 y.f0.f1 = true
    · have e1 : plcP y.f0.f0 y.f0.f1 (x :: t) = plcP y.f0.f0 y.f0.f1 t + 1 := by rw [plcP, if_pos hq]
      have e2 : ¬ lessP y.f0.f0 y.f0.f1 x.f0.f0 x.f0.f1 = true := by
        unfold lessP at *; simp only [decide_eq_true_eq] at *; omega
      rw [e1, insP, if_neg e2, ih]; rfl
    · have e1 : plcP y.f0.f0 y.f0.f1 (x :: t) = 0 := by rw [plcP, if_neg hq]
      have e2 : lessP y.f0.f0 y.f0.f1 x.f0.f0 x.f0.f1 = true := by
        unfold lessP at *; simp only [decide_eq_true_eq] at *; omega
      rw [e1, insP, if_pos e2]; rfl
theorem Y4C (x y : S52) : eqE x y = true ↔ x = y := by
  constructor
  · intro h
    obtain ⟨⟨a0, a1⟩, a2, ⟨a3, a4⟩, a5, ⟨a6, a7, a8, a9, a10, a11, a12⟩⟩ := x; obtain ⟨⟨b0, b1⟩, b2, ⟨b3, b4⟩, b5, ⟨b6, b7, b8, b9, b10, b11, b12⟩⟩ := y
    simp [eqE] at h
    simp [h]
  · rintro rfl
    simp [eqE]
def hasE (B : List S52) (e : S52) : Bool := B.any (fun b => eqE b e)
theorem Y38 (B : List S52) (e : S52) : hasE B e = true ↔ e ∈ B := by
  unfold hasE; rw [List.any_eq_true]
  constructor
  · rintro ⟨x, hx, h⟩; rw [Y4C] at h; exact h ▸ hx
  · exact fun h => ⟨e, h, (Y4C e e).2 rfl⟩
def misP (A B : List S52) : List S52 := A.filter (fun e => !hasE B e)
def neE (x y : S52) : Bool := ((!(x.f0.f0 == y.f0.f0) || (!(x.f0.f1 == y.f0.f1))) || (!(x.f1 == y.f1) || ((!(x.f2.f0 == y.f2.f0) || (!(x.f2.f1 == y.f2.f1))) || (!(x.f3 == y.f3) || ((!(x.f4.f0 == y.f4.f0) || (!(x.f4.f1 == y.f4.f1) || (!(x.f4.f2 == y.f4.f2) || (!(x.f4.f3 == y.f4.f3) || (!(x.f4.f4 == y.f4.f4) || (!(x.f4.f5 == y.f4.f5) || (!(x.f4.f6 == y.f4.f6)))))))))))))
theorem Y68 (x y : S52) : neE x y = !eqE x y := by
  unfold neE eqE; simp only [Bool.not_and]
theorem Y4L (k : Nat) (c d : Int) (B : List S52) (hl : B.length ≤ 1000000) (hk : B.length + 1 ≤ k) : Yq.f k B c d = some ((plcP c d B : Int), thrP c d B) := by
  have := Y3Y c d B k 0 (by omega) (by omega) hl; rw [List.drop_zero, Nat.zero_add] at this; exact this
theorem Y4K (dB : Int) (A B : List S52) (hB : ord52 B = true) (lA : A.length ≤ 1000) (lB : B.length ≤ 1000) : ∀ (m i k : Nat) (out : List S52), A.length - i = m → i ≤ A.length → out.length ≤ i → m + B.length + 3 ≤ k →
    Yw.l0 k out A (A.length : Int) (i : Int) dB B = some (out ++ misP (A.drop i) B, 0)
  | 0, i, k, out, hm, hi, ho, hk => by
    obtain ⟨k, rfl⟩ : ∃ q, k = q + 1 := ⟨k - 1, by omega⟩; rw [Yw.l0, if_neg (by omega), List.drop_of_length_le (by omega)]
    show _ = some (out ++ [], 0)
    rw [List.append_nil]
  | m + 1, i, k, out, hm, hi, ho, hk => by
    obtain ⟨k, rfl⟩ : ∃ q, k = q + 1 := ⟨k - 1, by omega⟩; have hlt : i < A.length := by omega
    have hi2 : i ≤ 2000000 := by omega
    have ih := fun o h => Y4K dB A B hB lA lB m (i + 1) k o (by omega) (by omega) h (by omega)
    rw [Yw.l0, if_pos (by omega), if_pos (by omega), if_pos (by omega), Y1k hlt, Y4L k _ _ B (by omega) (by omega), Option.bind_some, Y1M hi2, List.drop_eq_getElem_cons hlt]; dsimp only; have hyes : hasE B A[i] = true → misP (A[i] :: A.drop (i + 1)) B = misP (A.drop (i + 1)) B := fun h => List.filter_cons_of_neg (by rw [h]; decide)
    have hno : hasE B A[i] = false → misP (A[i] :: A.drop (i + 1)) B = A[i] :: misP (A.drop (i + 1)) B := fun h => List.filter_cons_of_pos (by rw [h]; rfl)
    by_cases ht : thrP A[i].f0.f0 A[i].f0.f1 B = true
    · have hp := Y3L ht
      rw [if_pos ht, if_pos (by omega), if_pos (by omega), Y1k hp]; have hat := Y5t A[i] B hB ht hp
      show (if neE B[plcP A[i].f0.f0 A[i].f0.f1 B] A[i] = true then _ else _) = _
      rw [Y68, ← hat]; cases hq : hasE B A[i]
      · rw [show B.any (fun e => eqE e A[i]) = false from hq, if_pos (show (!false) = true from rfl), if_pos (by omega), hno hq]
        rw [show out ++ A[i] :: misP (A.drop (i + 1)) B = (out ++ [A[i]]) ++ misP (A.drop (i + 1)) B by simp]; exact ih (out ++ [A[i]]) (by rw [List.length_append, List.length_singleton]; omega)
      · rw [show B.any (fun e => eqE e A[i]) = true from hq, if_neg (show ¬ ((!true) = true) from by decide), hyes hq]
        exact ih out (by omega)
    · rw [if_neg ht, if_pos (by omega)]
      have hq : hasE B A[i] = false := by
        rw [← Bool.not_eq_true, Y38]; intro hin; refine ht ?_; rw [← Y58 _ _ B hB]; exact List.any_eq_true.2 ⟨A[i], hin, by rw [Y2f]; exact ⟨rfl, rfl⟩⟩
      rw [hno hq, show out ++ A[i] :: misP (A.drop (i + 1)) B = (out ++ [A[i]]) ++ misP (A.drop (i + 1)) B by simp]; exact ih (out ++ [A[i]]) (by rw [List.length_append, List.length_singleton]; omega)
theorem Y3B (k : Nat) {dA dB : Int} {A B : List S52} (hA : rchkP dA A = 0) (hB : rchkP dB B = 0) (lA : A.length ≤ 600) (lB : B.length ≤ 600) (zA : ∀ e ∈ A, okE52 e) (zB : ∀ e ∈ B, okE52 e) (hk : 2000 ≤ k) : Yw.f k dA A dB B = some (misP A B, 0) := by
  have cA : Yv.f dA A = some 0 := by unfold Yv.f; rw [if_pos zA, hA]
  have cB : Yv.f dB B = some 0 := by unfold Yv.f; rw [if_pos zB, hB]
  unfold Yw.f Y13.f; rw [cA, Option.bind_some, if_pos rfl, cB, Option.bind_some, Option.bind_some, if_pos rfl]; have := Y4K dB A B (Y2u hB).1 (by omega) (by omega) A.length 0 k [] (by omega) (by omega) (by simp) (by omega); rw [List.drop_zero, List.nil_append] at this; exact this
def Y1O (A B : List S52) : Prop := ∀ a ∈ A, ∀ b ∈ B, a.f0.f0 = b.f0.f0 → a.f0.f1 = b.f0.f1 → a = b
theorem Y2F {a : S52} {A B : List S52} (h : ∀ b ∈ B, Y18 a.f0 b.f0 = true) : Y1O (a :: A) B ↔ Y1O A B := by
  constructor
  · exact fun q x hx => q x (List.mem_cons_of_mem _ hx)
  · intro q x hx b hb e0 e1
    rcases List.mem_cons.1 hx with rfl | hx
    · have := h b hb
      simp [Y18, lessP] at this
      omega
    · exact q x hx b hb e0 e1
theorem Y2r {b : S52} {A B : List S52} (h : ∀ a ∈ A, Y18 b.f0 a.f0 = true) : Y1O A (b :: B) ↔ Y1O A B := by
  constructor
  · exact fun q x hx y hy => q x hx y (List.mem_cons_of_mem _ hy)
  · intro q x hx y hy e0 e1
    rcases List.mem_cons.1 hy with rfl | hy
    · have := h x hx
      simp [Y18, lessP] at this
      omega
    · exact q x hx y hy e0 e1
theorem Y2E {a : S52} {A B : List S52} (hA : ∀ x ∈ A, Y18 a.f0 x.f0 = true) (hB : ∀ x ∈ B, Y18 a.f0 x.f0 = true) : Y1O (a :: A) (a :: B) ↔ Y1O A B := by
  constructor
  · exact fun q x hx y hy => q x (List.mem_cons_of_mem _ hx) y (List.mem_cons_of_mem _ hy)
  · intro q x hx y hy e0 e1
    rcases List.mem_cons.1 hx with ex | hx'
    · rcases List.mem_cons.1 hy with ey | hy'
      · rw [ex, ey]
      · have := hB y hy'; rw [ex] at e0 e1; simp [Y18, lessP] at this; omega
    · rcases List.mem_cons.1 hy with ey | hy'
      · have := hA x hx'; rw [ey] at e0 e1; simp [Y18, lessP] at this; omega
      · exact q x hx' y hy' e0 e1
abbrev Str (l : List S52) : Prop := l.Pairwise (fun x y => Y18 x.f0 y.f0 = true)
def fin (D : Int) (l : List S52) : Int × List S52 × Int := if (l.length : Int) > 512 then (0, [], 3) else (D, l, 0)
def Mrg (D : Int) (out A B : List S52) (r : Option (Int × List S52 × Int)) : Prop :=
  (Y1O A B → ∃ U, r = some (fin D (out ++ U)) ∧ Str U ∧ (∀ y, y ∈ U ↔ y ∈ A ∨ y ∈ B) ∧ U.length ≤ A.length + B.length) ∧ (¬ Y1O A B → r = some (0, [], 7))
theorem Y3V {D : Int} {out A B : List S52} {a : S52} {r : Option (Int × List S52 × Int)} (hA : ∀ x ∈ A, Y18 a.f0 x.f0 = true) (hB : ∀ x ∈ B, Y18 a.f0 x.f0 = true) (h : Mrg D (out ++ [a]) A B r) : Mrg D out (a :: A) B r := by
  refine ⟨fun hc => ?_, fun hc => h.2 (fun q => hc ((Y2F hB).2 q))⟩; obtain ⟨U, hr, hs, hm, hl⟩ := h.1 ((Y2F hB).1 hc); refine ⟨a :: U, by rw [hr, List.append_assoc]; rfl, List.pairwise_cons.2 ⟨fun x hx => ?_, hs⟩, fun y => ?_, by simp; omega⟩
  · rcases (hm x).1 hx with hx | hx
    · exact hA x hx
    · exact hB x hx
  · rw [List.mem_cons, hm, List.mem_cons]
    exact or_assoc.symm
theorem Y3s {D : Int} {out A B : List S52} {b : S52} {r : Option (Int × List S52 × Int)} (hA : ∀ x ∈ A, Y18 b.f0 x.f0 = true) (hB : ∀ x ∈ B, Y18 b.f0 x.f0 = true) (h : Mrg D (out ++ [b]) A B r) : Mrg D out A (b :: B) r := by
  refine ⟨fun hc => ?_, fun hc => h.2 (fun q => hc ((Y2r hA).2 q))⟩; obtain ⟨U, hr, hs, hm, hl⟩ := h.1 ((Y2r hA).1 hc); refine ⟨b :: U, by rw [hr, List.append_assoc]; rfl, List.pairwise_cons.2 ⟨fun x hx => ?_, hs⟩, fun y => ?_, by simp; omega⟩
  · rcases (hm x).1 hx with hx | hx
    · exact hA x hx
    · exact hB x hx
  · rw [List.mem_cons, hm, List.mem_cons]
    constructor
    · rintro (q | q | q)
      · exact Or.inr (Or.inl q)
      · exact Or.inl q
      · exact Or.inr (Or.inr q)
    · rintro (q | q | q)
      · exact Or.inr (Or.inl q)
      · exact Or.inl q
      · exact Or.inr (Or.inr q)
theorem Y5h {D : Int} {out A B : List S52} {a : S52} {r : Option (Int × List S52 × Int)} (hA : ∀ x ∈ A, Y18 a.f0 x.f0 = true) (hB : ∀ x ∈ B, Y18 a.f0 x.f0 = true) (h : Mrg D (out ++ [a]) A B r) : Mrg D out (a :: A) (a :: B) r := by
  refine ⟨fun hc => ?_, fun hc => h.2 (fun q => hc ((Y2E hA hB).2 q))⟩; obtain ⟨U, hr, hs, hm, hl⟩ := h.1 ((Y2E hA hB).1 hc); refine ⟨a :: U, by rw [hr, List.append_assoc]; rfl, List.pairwise_cons.2 ⟨fun x hx => ?_, hs⟩, fun y => ?_, by simp; omega⟩
  · rcases (hm x).1 hx with hx | hx
    · exact hA x hx
    · exact hB x hx
  · rw [List.mem_cons, hm, List.mem_cons, List.mem_cons]
    constructor
    · rintro (q | q | q)
      · exact Or.inl (Or.inl q)
      · exact Or.inl (Or.inr q)
      · exact Or.inr (Or.inr q)
    · rintro ((q | q) | (q | q))
      · exact Or.inl q
      · exact Or.inr (Or.inl q)
      · exact Or.inl q
      · exact Or.inr (Or.inr q)
theorem Y5Q (D : Int) (out : List S52) : Mrg D out [] [] (some (fin D out)) := by
  refine ⟨fun _ => ⟨[], by rw [List.append_nil], List.Pairwise.nil, fun y => by simp, Nat.zero_le _⟩, fun h => ?_⟩; exact absurd (fun a ha => absurd ha (List.not_mem_nil)) h
theorem Y5P {D : Int} {out A B : List S52} (h : ¬ Y1O A B) : Mrg D out A B (some (0, [], 7)) := ⟨fun q => absurd q h, fun _ => rfl⟩
theorem eq52 {a b : S52} (h : eqE a b = true) : a = b := by
  obtain ⟨⟨a0, a1⟩, a2, ⟨a3, a4⟩, a5, ⟨a6, a7, a8, a9, a10, a11, a12⟩⟩ := a; obtain ⟨⟨b0, b1⟩, b2, ⟨b3, b4⟩, b5, ⟨b6, b7, b8, b9, b10, b11, b12⟩⟩ := b
  simp [eqE] at h
  simp [h]
theorem Y1T {l : List S52} (h : Str l) {i : Nat} (hi : i < l.length) : ∀ x ∈ l.drop (i + 1), Y18 l[i].f0 x.f0 = true := by
  have : Str (l.drop i) := List.Pairwise.sublist (List.drop_sublist i l) h; rw [List.drop_eq_getElem_cons hi] at this; exact (List.pairwise_cons.1 this).1
theorem Y2q {i : Nat} (h : i ≤ 2000) : wrap64 ((i : Int) + 1) = ((i + 1 : Nat) : Int) := by unfold wrap64; omega
theorem m_end (dA dB D : Int) (A B : List S52) (i j k : Nat) (out : List S52) (hi : i = A.length) (hj : j = B.length) : Ya.l0 (k + 4) (i : Int) (j : Int) dA A dB B D out = some (fin D out) := by
  subst hi hj; unfold fin; rw [Ya.l0, if_neg (Int.lt_irrefl _), show decide ((B.length : Int) < (B.length : Int)) = false from decide_eq_false (Int.lt_irrefl _), Ya.j1, if_neg (by decide)]
  split <;> rfl
theorem m_r (dA dB D : Int) (A B : List S52) (i j k : Nat) (out : List S52) (hi : i = A.length) (hj : j < B.length) (hb : j ≤ 2000) (ho : out.length ≤ 1300) : Ya.l0 (k + 4) (i : Int) (j : Int) dA A dB B D out = Ya.l0 k (i : Int) ((j + 1 : Nat) : Int) dA A dB B D (out ++ [B[j]]) := by
  have hwj := Y2q hb; rw [Ya.l0, if_neg (by omega), show decide ((j : Int) < (B.length : Int)) = true from decide_eq_true (by omega), Ya.j1, if_pos rfl, if_neg (by omega), if_neg (by omega), Ya.j2, if_neg (by decide), if_pos (by omega), Ya.j3, if_pos rfl, if_pos (by omega), if_pos (by omega), if_pos (by omega), Y1k hj, hwj]
theorem m_a (dA dB D : Int) (A B : List S52) (i j k : Nat) (out : List S52) (hi : i < A.length) : Ya.l0 (k + 4) (i : Int) (j : Int) dA A dB B D out = Ya.j1 (k + 3) (i : Int) (j : Int) true dA A dB B D out := by
  rw [Ya.l0, if_pos (by omega)]
theorem m_l (dA dB D : Int) (A B : List S52) (i j k : Nat) (out : List S52) (hi : i < A.length) (hj : j = B.length) (hb : i ≤ 2000) (ho : out.length ≤ 1300) : Ya.j1 (k + 3) (i : Int) (j : Int) true dA A dB B D out = Ya.l0 (k + 1) ((i + 1 : Nat) : Int) (j : Int) dA A dB B D (out ++ [A[i]]) := by
  have hwi := Y2q hb; rw [Ya.j1, if_pos rfl, if_pos (by omega), Ya.j2, if_pos rfl, if_pos (by omega), if_pos (by omega), if_pos (by omega), Y1k hi, hwi]
theorem m_j1 (dA dB D : Int) (A B : List S52) (i j k : Nat) (out : List S52) (hi : i < A.length) (hj : j < B.length) : Ya.j1 (k + 3) (i : Int) (j : Int) true dA A dB B D out = Ya.j2 (k + 2) (i : Int) (j : Int) (Y18 A[i].f0 B[j].f0) dA A dB B D out := by
  rw [Ya.j1, if_pos rfl, if_neg (by omega), if_pos (by omega), if_pos (by omega), if_pos (by omega), if_pos (by omega), Y1k hi, Y1k hj, Y1K, Option.bind_some]; rfl
theorem m_j2 (dA dB D : Int) (A B : List S52) (i j k : Nat) (out : List S52) (hi : i < A.length) (hj : j < B.length) : Ya.j2 (k + 2) (i : Int) (j : Int) false dA A dB B D out = Ya.j3 (k + 1) (i : Int) (j : Int) (Y18 B[j].f0 A[i].f0) dA A dB B D out := by
  rw [Ya.j2, if_neg (by decide), if_neg (by omega), if_pos (by omega), if_pos (by omega), if_pos (by omega), if_pos (by omega), Y1k hi, Y1k hj, Y1K, Option.bind_some]; rfl
theorem m_j2t (dA dB D : Int) (A B : List S52) (i j k : Nat) (out : List S52) (hi : i < A.length) (hb : i ≤ 2000) (ho : out.length ≤ 1300) : Ya.j2 (k + 2) (i : Int) (j : Int) true dA A dB B D out = Ya.l0 (k + 1) ((i + 1 : Nat) : Int) (j : Int) dA A dB B D (out ++ [A[i]]) := by
  have hwi := Y2q hb; rw [Ya.j2, if_pos rfl, if_pos (by omega), if_pos (by omega), if_pos (by omega), Y1k hi, hwi]
theorem m_j3t (dA dB D : Int) (A B : List S52) (i j k : Nat) (out : List S52) (hj : j < B.length) (hb : j ≤ 2000) (ho : out.length ≤ 1300) : Ya.j3 (k + 1) (i : Int) (j : Int) true dA A dB B D out = Ya.l0 k (i : Int) ((j + 1 : Nat) : Int) dA A dB B D (out ++ [B[j]]) := by
  have hwj := Y2q hb; rw [Ya.j3, if_pos rfl, if_pos (by omega), if_pos (by omega), if_pos (by omega), Y1k hj, hwj]
theorem m_j3e (dA dB D : Int) (A B : List S52) (i j k : Nat) (out : List S52) (hi : i < A.length) (hj : j < B.length) (hbi : i ≤ 2000) (hb : j ≤ 2000) (ho : out.length ≤ 1300) (he : B[j] = A[i]) : Ya.j3 (k + 1) (i : Int) (j : Int) false dA A dB B D out = Ya.l0 k ((i + 1 : Nat) : Int) ((j + 1 : Nat) : Int) dA A dB B D (out ++ [A[i]]) := by
  have hwi := Y2q hbi; have hwj := Y2q hb; rw [Ya.j3, if_neg (by decide), if_pos (by omega), if_pos (by omega), if_pos (by omega), if_pos (by omega), Y1k hi, Y1k hj, if_neg (by rw [he]; simp), if_pos (by omega), hwi, hwj]
theorem m_j3n (dA dB D : Int) (A B : List S52) (i j k : Nat) (out : List S52) (hi : i < A.length) (hj : j < B.length) (hn : eqE A[i] B[j] = false) : Ya.j3 (k + 1) (i : Int) (j : Int) false dA A dB B D out = some (0, [], 7) := by
  have hb := congrArg (fun b => !b) hn; simp only [eqE, Bool.not_and, Bool.not_false] at hb; rw [Ya.j3, if_neg (by decide), if_pos (by omega), if_pos (by omega), if_pos (by omega), if_pos (by omega), Y1k hi, Y1k hj, if_pos hb]
theorem Y4y {a : S52} {l : List S52} : a ∈ a :: l := List.mem_cons_self
theorem Y5Y {x y : S52} (h1 : Y18 x.f0 y.f0 = false) (h2 : Y18 y.f0 x.f0 = false) : x.f0.f0 = y.f0.f0 ∧ x.f0.f1 = y.f0.f1 := by
  simp [Y18, lessP] at h1 h2
  omega
theorem under {a : S52} {l : List S52} {x : S52} (h : Y18 x.f0 a.f0 = true) (hl : ∀ y ∈ l, Y18 a.f0 y.f0 = true) : ∀ y ∈ a :: l, Y18 x.f0 y.f0 = true := by
  intro y hy; rcases List.mem_cons.1 hy with rfl | hy
  · exact h
  · exact Y2B h (hl y hy)
theorem Y66 (dA dB D : Int) (A B : List S52) (hA : Str A) (hB : Str B) (i j k : Nat) (out : List S52) (hi : i < A.length) (hj : j < B.length) (hbi : i ≤ 2000) (hb : j ≤ 2000) (ho : out.length ≤ 1300)
    (h1 : Mrg D (out ++ [A[i]]) (A.drop (i + 1)) (B.drop j) (Ya.l0 (k + 1) ((i + 1 : Nat) : Int) (j : Int) dA A dB B D (out ++ [A[i]])))
    (h2 : Mrg D (out ++ [B[j]]) (A.drop i) (B.drop (j + 1)) (Ya.l0 k (i : Int) ((j + 1 : Nat) : Int) dA A dB B D (out ++ [B[j]])))
    (h3 : Mrg D (out ++ [A[i]]) (A.drop (i + 1)) (B.drop (j + 1)) (Ya.l0 k ((i + 1 : Nat) : Int) ((j + 1 : Nat) : Int) dA A dB B D (out ++ [A[i]]))) :
    Mrg D out (A.drop i) (B.drop j) (Ya.l0 (k + 4) (i : Int) (j : Int) dA A dB B D out) := by
  rw [m_a _ _ _ _ _ _ _ _ _ hi, m_j1 _ _ _ _ _ _ _ _ _ hi hj]; cases c1 : Y18 A[i].f0 B[j].f0
  · rw [m_j2 _ _ _ _ _ _ _ _ _ hi hj]
    cases c2 : Y18 B[j].f0 A[i].f0
    · cases c3 : eqE A[i] B[j]
      · rw [m_j3n _ _ _ _ _ _ _ _ _ hi hj c3]
        refine Y5P (fun hc => ?_); have hst := Y5Y c1 c2; rw [List.drop_eq_getElem_cons hi, List.drop_eq_getElem_cons hj] at hc; have he := hc A[i] Y4y B[j] Y4y hst.1 hst.2; rw [← he] at c3
        simp [eqE] at c3
      · have he := eq52 c3
        rw [m_j3e _ _ _ _ _ _ _ _ _ hi hj hbi hb ho he.symm, List.drop_eq_getElem_cons hi, List.drop_eq_getElem_cons hj, ← he]; exact Y5h (Y1T hA hi) (fun x hx => by rw [he]; exact Y1T hB hj x hx) h3
    · rw [m_j3t _ _ _ _ _ _ _ _ _ hj hb ho, List.drop_eq_getElem_cons hj]
      exact Y3s (by rw [List.drop_eq_getElem_cons hi]; exact under c2 (Y1T hA hi)) (Y1T hB hj) h2
  · rw [m_j2t _ _ _ _ _ _ _ _ _ hi hbi ho, List.drop_eq_getElem_cons hi]
    exact Y3V (Y1T hA hi) (by rw [List.drop_eq_getElem_cons hj]; exact under c1 (Y1T hB hj)) h1
theorem Y67 (dA dB D : Int) (A B : List S52) (hA : Str A) (i j k : Nat) (out : List S52) (hi : i < A.length) (hj : j = B.length) (hbi : i ≤ 2000) (ho : out.length ≤ 1300)
    (h1 : Mrg D (out ++ [A[i]]) (A.drop (i + 1)) (B.drop j) (Ya.l0 (k + 1) ((i + 1 : Nat) : Int) (j : Int) dA A dB B D (out ++ [A[i]]))) :
    Mrg D out (A.drop i) (B.drop j) (Ya.l0 (k + 4) (i : Int) (j : Int) dA A dB B D out) := by
  rw [m_a _ _ _ _ _ _ _ _ _ hi, m_l _ _ _ _ _ _ _ _ _ hi hj hbi ho, List.drop_eq_getElem_cons hi]; refine Y3V (Y1T hA hi) (fun x hx => ?_) h1; rw [List.drop_eq_nil_of_le (Nat.le_of_eq hj.symm)] at hx; exact absurd hx List.not_mem_nil
theorem Y5O (dA dB D : Int) (A B : List S52) (hB : Str B) (i j k : Nat) (out : List S52) (hi : i = A.length) (hj : j < B.length) (hb : j ≤ 2000) (ho : out.length ≤ 1300)
    (h2 : Mrg D (out ++ [B[j]]) (A.drop i) (B.drop (j + 1)) (Ya.l0 k (i : Int) ((j + 1 : Nat) : Int) dA A dB B D (out ++ [B[j]]))) :
    Mrg D out (A.drop i) (B.drop j) (Ya.l0 (k + 4) (i : Int) (j : Int) dA A dB B D out) := by
  rw [m_r _ _ _ _ _ _ _ _ _ hi hj hb ho, List.drop_eq_getElem_cons hj]; refine Y3s (fun x hx => ?_) (Y1T hB hj) h2; rw [List.drop_eq_nil_of_le (Nat.le_of_eq hi.symm)] at hx; exact absurd hx List.not_mem_nil
theorem Y5C (dA dB D : Int) (A B : List S52) (i j k : Nat) (out : List S52) (hi : i = A.length) (hj : j = B.length) : Mrg D out (A.drop i) (B.drop j) (Ya.l0 (k + 4) (i : Int) (j : Int) dA A dB B D out) := by
  rw [m_end _ _ _ _ _ _ _ _ _ hi hj, List.drop_eq_nil_of_le (Nat.le_of_eq hi.symm), List.drop_eq_nil_of_le (Nat.le_of_eq hj.symm)]; exact Y5Q D out
theorem Y26 (dA dB D : Int) (A B : List S52) (hA : Str A) (hB : Str B) (hlA : A.length ≤ 600) (hlB : B.length ≤ 600) : ∀ (m i j k : Nat) (out : List S52), (A.length - i) + (B.length - j) ≤ m → i ≤ A.length → j ≤ B.length → 4 * m + 4 ≤ k → out.length + m ≤ 1300 →
    Mrg D out (A.drop i) (B.drop j) (Ya.l0 k (i : Int) (j : Int) dA A dB B D out)
  | 0, i, j, k, out, hm, hi, hj, hk, ho => by
    have h1 : i = A.length := by omega
    have h2 : j = B.length := by omega
    obtain ⟨q, hq⟩ : ∃ q, k = q + 4 := ⟨k - 4, by omega⟩; rw [hq]; exact Y5C dA dB D A B i j q out h1 h2
  | m + 1, i, j, k, out, hm, hi, hj, hk, ho => by
    obtain ⟨q, hq⟩ : ∃ q, k = q + 4 := ⟨k - 4, by omega⟩; rw [hq]; have hk' : 4 * m + 4 ≤ q := by omega
    have hk1 : 4 * m + 4 ≤ q + 1 := by omega
    have ho' : ∀ x : S52, (out ++ [x]).length + m ≤ 1300 := fun x => by rw [List.length_append, List.length_singleton]; omega
    have hoo : out.length ≤ 1300 := by omega
    have bi : i ≤ 2000 := by omega
    have bj : j ≤ 2000 := by omega
    by_cases ci : i < A.length
    · by_cases cj : j < B.length
      · exact Y66 dA dB D A B hA hB i j q out ci cj bi bj hoo
          (Y26 dA dB D A B hA hB hlA hlB m (i + 1) j (q + 1) _ (by omega) ci hj hk1 (ho' _))
          (Y26 dA dB D A B hA hB hlA hlB m i (j + 1) q _ (by omega) hi cj hk' (ho' _))
          (Y26 dA dB D A B hA hB hlA hlB m (i + 1) (j + 1) q _ (by omega) ci cj hk' (ho' _))
      · exact Y67 dA dB D A B hA i j q out ci (by omega) bi hoo (Y26 dA dB D A B hA hB hlA hlB m (i + 1) j (q + 1) _ (by omega) ci hj hk1 (ho' _))
    · by_cases cj : j < B.length
      · exact Y5O dA dB D A B hB i j q out (by omega) cj bj hoo (Y26 dA dB D A B hA hB hlA hlB m i (j + 1) q _ (by omega) hi cj hk' (ho' _))
      · exact Y5C dA dB D A B i j q out (by omega) (by omega)
theorem Y40 : ∀ {l1 l2 : List S52}, l1.Pairwise (fun x y => Y18 x.f0 y.f0 = true) → l2.Pairwise (fun x y => Y18 x.f0 y.f0 = true) → (∀ a, a ∈ l1 ↔ a ∈ l2) → l1 = l2
  | [], [], _, _, _ => rfl
  | [], y :: s, _, _, h => absurd ((h y).2 List.mem_cons_self) (by simp)
  | x :: r, [], _, _, h => absurd ((h x).1 List.mem_cons_self) (by simp)
  | x :: r, y :: s, h1, h2, h => by
    have p1 := List.pairwise_cons.1 h1; have p2 := List.pairwise_cons.1 h2
    have e : x = y := by
      rcases List.mem_cons.1 ((h x).1 List.mem_cons_self) with e | hx
      · exact e
      · rcases List.mem_cons.1 ((h y).2 List.mem_cons_self) with e | hy
        · exact e.symm
        · have := Y2B (p1.1 y hy) (p2.1 x hx)
          rw [Y2m] at this; cases this
    subst e
    have ht : ∀ a, a ∈ r ↔ a ∈ s := fun a => by
      constructor
      · intro ha
        rcases List.mem_cons.1 ((h a).1 (List.mem_cons_of_mem _ ha)) with e | ha'
        · have := p1.1 a ha; rw [e, Y2m] at this; cases this
        · exact ha'
      · intro ha
        rcases List.mem_cons.1 ((h a).2 (List.mem_cons_of_mem _ ha)) with e | ha'
        · have := p2.1 a ha; rw [e, Y2m] at this; cases this
        · exact ha'
    rw [Y40 p1.2 p2.2 ht]
structure Part (l O : List S52) : Prop where
  sub : ∀ x ∈ O, x ∈ l
  ord : O.Pairwise (fun x y => Y18 x.f0 y.f0 = true)
  kn : ∀ x ∈ O, kno52 O x = true
theorem Y5K (y : S52) (l : List S52) (i : Nat) (a : S52) : a ∈ l.take i ++ y :: l.drop i ↔ a = y ∨ a ∈ l := by
  rw [List.mem_append, List.mem_cons]
  conv => rhs; rw [← List.take_append_drop i l, List.mem_append]
  constructor
  · rintro (h | h | h)
    · exact Or.inr (Or.inl h)
    · exact Or.inl h
    · exact Or.inr (Or.inr h)
  · rintro (h | h | h)
    · exact Or.inr (Or.inl h)
    · exact Or.inl h
    · exact Or.inr (Or.inr h)
theorem Y3u (c d : Int) : ∀ (l : List S52), (∀ x ∈ l.take (plcP c d l), lessP x.f0.f0 x.f0.f1 c d = true) ∧ (l.Pairwise (fun x y => Y18 x.f0 y.f0 = true) → ∀ x ∈ l.drop (plcP c d l), lessP x.f0.f0 x.f0.f1 c d = false)
  | [] => ⟨by simp [plcP], by simp [plcP]⟩
  | x :: t => by
    obtain ⟨i1, i2⟩ := Y3u c d t; by_cases h : lessP x.f0.f0 x.f0.f1 c d = true
    · rw [plcP, if_pos h, List.take_succ_cons, List.drop_succ_cons]
      refine ⟨fun y hy => ?_, fun hp => i2 (List.pairwise_cons.1 hp).2⟩; rcases List.mem_cons.1 hy with rfl | hy
      · exact h
      · exact i1 y hy
    · rw [plcP, if_neg h, List.take_zero, List.drop_zero]
      refine ⟨by simp, fun hp y hy => ?_⟩; rcases List.mem_cons.1 hy with rfl | hy
      · simpa using h
      · have hl := (List.pairwise_cons.1 hp).1 y hy
        simp [Y18, lessP] at *; omega
theorem Y5L {l : List S52} (h : Str l) {y : S52} (hn : ∀ e ∈ l, ¬ (e.f0.f0 = y.f0.f0 ∧ e.f0.f1 = y.f0.f1)) : Str (insP y l) ∧ (∀ a, a ∈ insP y l ↔ a = y ∨ a ∈ l) ∧ (insP y l).length = l.length + 1 := by
  have hany : l.any (stE y.f0.f0 y.f0.f1) = false := by
    rw [List.any_eq_false]; intro e he hs; rw [Y2f] at hs; exact hn e he hs
  rw [Y5w y l hany]; refine ⟨?_, fun a => Y5K _ _ _ _, ?_⟩
  · obtain ⟨s1, s2⟩ := Y3u y.f0.f0 y.f0.f1 l
    have s2 := s2 h; have hp := h; unfold Str at hp; rw [← List.take_append_drop (plcP y.f0.f0 y.f0.f1 l) l, List.pairwise_append] at hp; refine List.pairwise_append.2 ⟨hp.1, List.pairwise_cons.2 ⟨fun x hx => ?_, hp.2.1⟩, fun a ha b hb => ?_⟩
    · have h1 := s2 x hx
      have h2 := hn x (List.mem_of_mem_drop hx)
      simp [Y18, lessP] at *; omega
    · rcases List.mem_cons.1 hb with rfl | hb
      · exact s1 a ha
      · exact hp.2.2 a ha b hb
  · have := Y3D y.f0.f0 y.f0.f1 l
    rw [List.length_append, List.length_cons, List.length_take, List.length_drop]; omega
theorem Y2I (dA dB : Int) (A B : List S52) (hA : ord52 A = true) (hB : ord52 B = true) (lA : A.length ≤ 600) (lB : B.length ≤ 600) : ∀ (m i k : Nat) (O : List S52), B.length - i = m → i ≤ B.length → m + 1300 ≤ k → Str O → (∀ a, a ∈ O ↔ a ∈ A ∨ a ∈ B.take i) → Y1O A (B.take i) → O.length ≤ A.length + i →
    (Y1O A B → ∃ U, Yc.l0 k (i : Int) dA A dB B dA O = some (fin dA U) ∧ Str U ∧ ∀ y, y ∈ U ↔ y ∈ A ∨ y ∈ B) ∧ (¬ Y1O A B → Yc.l0 k (i : Int) dA A dB B dA O = some (0, [], 7))
  | 0, i, k, O, hm, hi, hk, hO, hmem, hnc, hlen => by
    obtain ⟨k, rfl⟩ : ∃ q, k = q + 1 := ⟨k - 1, by omega⟩; rw [List.take_of_length_le (by omega)] at hmem hnc; refine ⟨fun _ => ⟨O, ?_, hO, hmem⟩, fun h => absurd hnc h⟩; rw [Yc.l0, if_neg (by omega)]; unfold fin
    split <;> rfl
  | m + 1, i, k, O, hm, hi, hk, hO, hmem, hnc, hlen => by
    obtain ⟨k, rfl⟩ : ∃ q, k = q + 1 := ⟨k - 1, by omega⟩; have hlt : i < B.length := by omega
    have hi2 : i ≤ 2000000 := by omega
    have htk : ∀ a, a ∈ B.take (i + 1) ↔ a ∈ B.take i ∨ a = B[i] := fun a => by
      rw [← List.take_append_getElem hlt, List.mem_append, List.mem_singleton]
    have hstep : Yc.l0 (k + 1) (i : Int) dA A dB B dA O = (if hasE A B[i] = true then (Yc.l0 k ((i + 1 : Nat) : Int) dA A dB B dA O) else (if A.any (stE B[i].f0.f0 B[i].f0.f1) = true then (some (0, ([] : List S52), 7)) else (Yc.l0 k ((i + 1 : Nat) : Int) dA A dB B dA (insP B[i] O)))) := by
      rw [Yc.l0, if_pos (by omega), if_pos (by omega), Y1k hlt, Y5u k A (by omega) B[i] (by omega), Option.bind_some, Y4i k A (by omega) _ _ (by omega), Option.bind_some, Y5T k O (by omega) B[i] (by omega), Option.bind_some, Y1M hi2]; rfl
    rw [hstep]; by_cases hin : B[i] ∈ A
    · rw [if_pos ((Y38 A B[i]).2 hin)]
      refine Y2I dA dB A B hA hB lA lB m (i + 1) k O (by omega) (by omega) (by omega) hO (fun a => ?_) (fun a ha b hb e0 e1 => ?_) (by omega)
      · rw [hmem, htk]
        constructor
        · rintro (h | h)
          · exact Or.inl h
          · exact Or.inr (Or.inl h)
        · rintro (h | h | h)
          · exact Or.inl h
          · exact Or.inr h
          · exact Or.inl (h ▸ hin)
      · rcases (htk b).1 hb with hb | hb
        · exact hnc a ha b hb e0 e1
        · subst hb
          exact Y4Q hA ha hin e0 e1
    · rw [if_neg (fun h => hin ((Y38 A B[i]).1 h))]
      by_cases hst : A.any (stE B[i].f0.f0 B[i].f0.f1) = true
      · rw [if_pos hst]
        have hbad : ¬ Y1O A B := by
          intro h; obtain ⟨a, ha, hs⟩ := List.any_eq_true.1 hst; rw [Y2f] at hs; have := h a ha B[i] (List.getElem_mem hlt) hs.1 hs.2; exact hin (this ▸ ha)
        exact ⟨fun h => absurd h hbad, fun _ => rfl⟩
      · rw [if_neg hst]
        have hA' : ∀ e ∈ A, ¬ (e.f0.f0 = B[i].f0.f0 ∧ e.f0.f1 = B[i].f0.f1) := fun e he h => hst (List.any_eq_true.2 ⟨e, he, (Y2f _ _ _).2 h⟩)
        have hO' : ∀ e ∈ O, ¬ (e.f0.f0 = B[i].f0.f0 ∧ e.f0.f1 = B[i].f0.f1) := fun e he h => by
          rcases (hmem e).1 he with q | q
          · exact hA' e q h
          · obtain ⟨j, hj, rfl⟩ := List.getElem_of_mem q
            rw [List.length_take] at hj; have hp := List.pairwise_iff_getElem.1 (Y2n hB) j i (by omega) hlt (by omega); rw [List.getElem_take] at h
            simp [Y18, lessP] at hp
            omega
        obtain ⟨s1, s2, s3⟩ := Y5L hO hO'; refine Y2I dA dB A B hA hB lA lB m (i + 1) k (insP B[i] O) (by omega) (by omega) (by omega) s1 (fun a => ?_) (fun a ha b hb e0 e1 => ?_) (by omega)
        · rw [s2, hmem, htk]
          constructor
          · rintro (h | h | h)
            · exact Or.inr (Or.inr h)
            · exact Or.inl h
            · exact Or.inr (Or.inl h)
          · rintro (h | h | h)
            · exact Or.inr (Or.inl h)
            · exact Or.inr (Or.inr h)
            · exact Or.inl h
        · rcases (htk b).1 hb with hb | hb
          · exact hnc a ha b hb e0 e1
          · subst hb
            exact absurd ⟨e0, e1⟩ (hA' a ha)
theorem Y3Z (dA dB : Int) (A B : List S52) (lA : A.length ≤ 1000) (lB : B.length ≤ 1000) : ∀ (m i k : Nat) (out : List S52), A.length - i = m → i ≤ A.length → out.length ≤ i → m + B.length + 3 ≤ k →
    Yh.l0 k out (i : Int) dA A dB B = some (out ++ misP (A.drop i) B, 0)
  | 0, i, k, out, hm, hi, ho, hk => by
    obtain ⟨k, rfl⟩ : ∃ q, k = q + 1 := ⟨k - 1, by omega⟩; rw [Yh.l0, if_neg (by omega), List.drop_of_length_le (by omega)]
    show _ = some (out ++ [], 0)
    rw [List.append_nil]
  | m + 1, i, k, out, hm, hi, ho, hk => by
    obtain ⟨k, rfl⟩ : ∃ q, k = q + 1 := ⟨k - 1, by omega⟩; have hlt : i < A.length := by omega
    have hi2 : i ≤ 2000000 := by omega
    have ih := fun o h => Y3Z dA dB A B lA lB m (i + 1) k o (by omega) (by omega) h (by omega)
    rw [Yh.l0, if_pos (by omega), if_pos (by omega), Y1k hlt, Y5u k B (by omega) A[i] (by omega), Option.bind_some, Y1M hi2, List.drop_eq_getElem_cons hlt]; cases hq : hasE B A[i]
    · rw [show B.any (fun e => eqE e A[i]) = false from hq, if_neg (by decide), if_pos (by omega), show misP (A[i] :: A.drop (i + 1)) B = A[i] :: misP (A.drop (i + 1)) B from List.filter_cons_of_pos (by rw [hq]; rfl), show out ++ A[i] :: misP (A.drop (i + 1)) B = (out ++ [A[i]]) ++ misP (A.drop (i + 1)) B by simp]
      exact ih (out ++ [A[i]]) (by rw [List.length_append, List.length_singleton]; omega)
    · rw [show B.any (fun e => eqE e A[i]) = true from hq, if_pos rfl, show misP (A[i] :: A.drop (i + 1)) B = misP (A.drop (i + 1)) B from List.filter_cons_of_neg (by rw [hq]; decide)]
      exact ih out (by omega)
theorem Y49 (k : Nat) {dA dB : Int} {A B : List S52} (lA : A.length ≤ 513) (lB : B.length ≤ 513) (zA : ∀ e ∈ A, okE52 e) (zB : ∀ e ∈ B, okE52 e) (hk : 6000 ≤ k) :
    ∃ r, Ya.f k dA A dB B = some r ∧ Yc.f k dA A dB B = some r ∧ r.2.1.length ≤ 2000 := by
  have cA : Yv.f dA A = some (rchkP dA A) := by unfold Yv.f; rw [if_pos zA]
  have cB : Yv.f dB B = some (rchkP dB B) := by unfold Yv.f; rw [if_pos zB]
  by_cases vA : rchkP dA A = 0
  rotate_left
  · refine ⟨(0, [], rchkP dA A), ?_, ?_, by simp⟩
    · unfold Ya.f Y13.f
      rw [cA, Option.bind_some, if_neg vA, Option.bind_some, if_neg vA]
    · unfold Yc.f
      rw [Y1Z k dA A (by omega) (by omega), Option.bind_some, if_neg vA]
  by_cases vB : rchkP dB B = 0
  rotate_left
  · refine ⟨(0, [], rchkP dB B), ?_, ?_, by simp⟩
    · unfold Ya.f Y13.f
      rw [cA, Option.bind_some, if_pos vA, cB, Option.bind_some, Option.bind_some, if_neg vB]
    · unfold Yc.f
      rw [Y1Z k dA A (by omega) (by omega), Option.bind_some, if_pos vA, Y1Z k dB B (by omega) (by omega), Option.bind_some, if_neg vB]
  have oA := (Y2u vA).1; have oB := (Y2u vB).1
  have hf : Ya.f k dA A dB B = Ya.l0 k 0 0 dA A dB B dA [] := by
    unfold Ya.f Y13.f; rw [cA, Option.bind_some, if_pos vA, cB, Option.bind_some, Option.bind_some, if_pos vB]
  have hg : Yc.f k dA A dB B = Yc.l0 k 0 dA A dB B dA A := by
    unfold Yc.f Y1f.f; rw [Y1Z k dA A (by omega) (by omega), Option.bind_some, if_pos vA, Y1Z k dB B (by omega) (by omega), Option.bind_some, if_pos vB, if_pos (by simp only [List.length_nil]; omega), Option.bind_some]; rfl
  have h := Y26 dA dB dA A B (Y2n oA) (Y2n oB) (by omega) (by omega) (A.length + B.length) 0 0 k [] (by omega) (by omega) (by omega) (by omega) (by simp only [List.length_nil]; omega); rw [List.drop_zero, List.drop_zero] at h; replace h : Mrg dA [] A B (Ya.l0 k 0 0 dA A dB B dA []) := h; have g := Y2I dA dB A B oA oB (by omega) (by omega) B.length 0 k A (by omega) (by omega) (by omega) (Y2n oA) (fun a => by simp) (fun a ha b hb => by simp at hb) (by omega); replace g : (Y1O A B → ∃ U, Yc.l0 k 0 dA A dB B dA A = some (fin dA U) ∧ Str U ∧ ∀ y, y ∈ U ↔ y ∈ A ∨ y ∈ B) ∧ (¬ Y1O A B → Yc.l0 k 0 dA A dB B dA A = some (0, [], 7)) := g; rw [hf, hg]; by_cases hc : Y1O A B
  · obtain ⟨U, u1, u2, u3, u4⟩ := h.1 hc
    obtain ⟨V, v1, v2, v3⟩ := g.1 hc; have e : V = U := Y40 v2 u2 (fun a => by rw [v3, u3]); rw [e] at v1; refine ⟨fin dA U, u1, v1, ?_⟩; unfold fin
    split
    · simp
    · show U.length ≤ 2000
      omega
  · exact ⟨(0, [], 7), h.2 hc, g.2 hc, by simp⟩
theorem Y3r (k : Nat) {dA dB : Int} {A B : List S52} (lA : A.length ≤ 513) (lB : B.length ≤ 513) (zA : ∀ e ∈ A, okE52 e) (zB : ∀ e ∈ B, okE52 e) (hk : 6000 ≤ k) :
    ∃ r, Yw.f k dA A dB B = some r ∧ Yh.f k dA A dB B = some r ∧ r.1.length ≤ 2000 := by
  have cA : Yv.f dA A = some (rchkP dA A) := by unfold Yv.f; rw [if_pos zA]
  have cB : Yv.f dB B = some (rchkP dB B) := by unfold Yv.f; rw [if_pos zB]
  by_cases vA : rchkP dA A = 0
  rotate_left
  · refine ⟨([], rchkP dA A), ?_, ?_, by simp⟩
    · unfold Yw.f Y13.f
      rw [cA, Option.bind_some, if_neg vA, Option.bind_some, if_neg vA]
    · unfold Yh.f
      rw [Y1Z k dA A (by omega) (by omega), Option.bind_some, if_neg vA]
  by_cases vB : rchkP dB B = 0
  rotate_left
  · refine ⟨([], rchkP dB B), ?_, ?_, by simp⟩
    · unfold Yw.f Y13.f
      rw [cA, Option.bind_some, if_pos vA, cB, Option.bind_some, Option.bind_some, if_neg vB]
    · unfold Yh.f
      rw [Y1Z k dA A (by omega) (by omega), Option.bind_some, if_pos vA, Y1Z k dB B (by omega) (by omega), Option.bind_some, if_neg vB]
  refine ⟨(misP A B, 0), Y3B k vA vB (by omega) (by omega) zA zB (by omega), ?_, Nat.le_trans (List.length_filter_le _ _) (by omega)⟩; unfold Yh.f; rw [Y1Z k dA A (by omega) (by omega), Option.bind_some, if_pos vA, Y1Z k dB B (by omega) (by omega), Option.bind_some, if_pos vB]; have := Y3Z dA dB A B (by omega) (by omega) A.length 0 k [] (by omega) (by omega) (by simp) (by omega); rw [List.drop_zero, List.nil_append] at this; exact this
def zN (n : Int) : Prop := -9223372036854775808 ≤ n ∧ n ≤ 9223372036854775807
def zT46 (x : S46) : Prop := zN x.f0 ∧ zN x.f1
def zT42 (x : S42) : Prop := zN x.f0 ∧ zN x.f1 ∧ zN x.f2 ∧ zN x.f3 ∧ zN x.f4 ∧ zN x.f5 ∧ zN x.f6
def zT52 (x : S52) : Prop := zT46 x.f0 ∧ zN x.f1 ∧ zT46 x.f2 ∧ True ∧ zT42 x.f4
theorem zN_ok {n : Int} (h : zN n) : okN n := by
  have e1 : IntKind.i64.min = -9223372036854775808 := rfl; have e2 : IntKind.i64.max = 9223372036854775807 := rfl; unfold okN; simp only [Lit.wf, e1, e2, Bool.and_eq_true, decide_eq_true_eq]; exact h
theorem zT_ok {x : S52} (h : zT52 x) : okE52 x := by
  obtain ⟨_, c, ⟨d, e⟩, _⟩ := h; exact ⟨zN_ok c, zN_ok d, zN_ok e⟩
theorem Y2t (l : List S52) (hl : l.length ≤ 1000000) : ∀ (m i k : Nat), l.length - i = m → i ≤ l.length → m + 1 ≤ k → Yl.l0 k l l (i : Int) = some true
  | 0, i, k, hm, hi, hk => by
    obtain ⟨k, rfl⟩ : ∃ j, k = j + 1 := ⟨k - 1, by omega⟩; unfold Yl.l0; rw [if_neg (by omega)]
  | m + 1, i, k, hm, hi, hk => by
    obtain ⟨k, rfl⟩ : ∃ j, k = j + 1 := ⟨k - 1, by omega⟩; unfold Yl.l0; rw [if_pos (by omega), if_pos (by omega), if_pos (by omega), if_neg (by simp), show wrap64 ((i : Int) + 1) = ((i + 1 : Nat) : Int) by unfold wrap64; omega]; exact Y2t l hl m (i + 1) k (by omega) (by omega) (by omega)
theorem Y2H (k : Nat) (l : List S52) (hl : l.length ≤ 1000000) (hk : l.length + 1 ≤ k) : Yl.f k l l = some true := by
  unfold Yl.f; rw [if_pos rfl]; exact Y2t l hl l.length 0 k (by omega) (by omega) hk
theorem Y4g (k : Nat) (d : Int) (l : List S52) (hl : l.length ≤ 1000000) (hk : l.length + 1 ≤ k) : YL.f k d l d l = some true := by
  unfold YL.f; rw [if_pos rfl, Y2H k l hl hk]; rfl
end Go.Proofs.YteopkkoblbmggaaGreat.P
end
section
set_option linter.unusedVariables false
set_option linter.unusedSimpArgs false
namespace Go.Proofs.YteopkkoblbmggaaGreat.Pure
open Go.RowKit Go.Proofs.YteopkkoblbmggaaGreat.P Go.Proofs.YteopkkoblbmggaaGreat.Open Go.Proofs.YteopkkoblbmggaaGreatW.PrintWords Go.Proofs.YteopkkoblbmggaaGreatW.PrintLast Go.Proofs.YteopkkoblbmggaaGreatW.PrintMore
theorem ReplicaMerge (a0_0 : Int) (l0_1 : List S52) (a1_0 : Int) (l1_1 : List S52) (w0_0 : okI a0_0) (w0_1 : l0_1.length ≤ maxLen ∧ l0_1.length * 104 ≤ 140737488351232 ∧ ∀ y ∈ l0_1, zT52 y) (w1_0 : okI a1_0) (w1_1 : l1_1.length ≤ maxLen ∧ l1_1.length * 104 ≤ 140737488351232 ∧ ∀ y ∈ l1_1, zT52 y) : ∃ k, YG.f k a0_0 l0_1 a1_0 l1_1 = some true := by
  refine ⟨6000, ?_⟩
  have aw : ((Yb.f 6000).bind fun t => some t) = some true := by rw [Y42 6000 (by decide)]; rfl
  unfold YG.f
  obtain ⟨b1, hb1, hl1⟩ := Y5D a0_0 l0_1
  rw [hb1, Option.bind_some]
  cases b1
  rotate_left
  · rw [if_pos rfl]; exact aw
  rw [if_neg (by decide)]
  obtain ⟨b2, hb2, hl2⟩ := Y5D a1_0 l1_1
  rw [hb2, Option.bind_some]
  cases b2
  rotate_left
  · rw [if_pos rfl]; exact aw
  rw [if_neg (by decide)]
  have lA := hl1 rfl
  have lB := hl2 rfl
  have zA : ∀ e ∈ l0_1, okE52 e := fun e he => zT_ok (w0_1.2.2 e he)
  have zB : ∀ e ∈ l1_1, okE52 e := fun e he => zT_ok (w1_1.2.2 e he)
  obtain ⟨r, r1, r2, r3⟩ := Y49 6000 (dA := a0_0) (dB := a1_0) lA lB zA zB (Nat.le_refl _)
  obtain ⟨s, s1, s2, s3⟩ := Y3r 6000 (dA := a0_0) (dB := a1_0) lA lB zA zB (Nat.le_refl _)
  rw [r1, Option.bind_some, r2, Option.bind_some, s1, Option.bind_some, s2, Option.bind_some, Y4g 6000 r.1 r.2.1 (by omega) (by omega), Option.bind_some, if_pos rfl, if_pos rfl, Y2H 6000 s.1 (by omega) (by omega), Option.bind_some, if_pos rfl, if_pos rfl]
  exact aw
end Go.Proofs.YteopkkoblbmggaaGreat.Pure
end

/- The plain statement of StaffColumns; no condition. -/
import Derived.Test.YtdilndbanhianaaP33
import Derived.Test.YtdilndbanhianaaME
import Derived.Test.YtdilndbanhianaaStaffA
import Derived.Test.YtdilndbanhianaaOpen
set_option linter.unusedVariables false
set_option linter.unusedSimpArgs false
namespace Go.Proofs.Ytdilndbanhianaa.Pure
open Go.RowKit Go.Proofs.Ytdilndbanhianaa.P Go.Proofs.Ytdilndbanhianaa.Open Go.Proofs.YtdilndbanhianaaW.PrintWords Go.Proofs.YtdilndbanhianaaW.PrintLast Go.Proofs.YtdilndbanhianaaW.PrintMore
theorem firstI_spec (p : S29 → Bool) : ∀ (l : List S29) (i : Nat), (firstI p i l = -1 ∧ ∀ s ∈ l, p s = false) ∨ ∃ j, ∃ h : j < l.length, firstI p i l = ((i + j : Nat) : Int) ∧ p l[j] = true ∧ ∀ j' (h' : j' < j), p (l[j']'(Nat.lt_trans h' h)) = false
  | [], i => .inl ⟨rfl, by simp⟩
  | s :: l, i => by
    unfold firstI
    by_cases c : p s = true
    · rw [if_pos c]; exact .inr ⟨0, by simp, by simp, c, fun j' h' => by omega⟩
    · rw [if_neg c]
      rcases firstI_spec p l (i + 1) with ⟨h1, h2⟩ | ⟨j, hj, h1, h2, h3⟩
      · left; exact ⟨h1, by intro x hx; rcases List.mem_cons.mp hx with rfl | hx; simpa using c; exact h2 x hx⟩
      · right
        refine ⟨j + 1, by simpa using hj, by rw [h1]; congr 1; omega, by simpa using h2, fun j' h' => ?_⟩
        cases j' with
        | zero => simpa using c
        | succ j' => simpa using h3 j' (by omega)
theorem at_iff {l : List S29} {n : Int} (v : StaffOk l n) (c t : Int) (i : Nat) (hi : i < l.length) (hc : l[i].f1 = c) : firstI (atC c t) 0 l = (i : Int) ↔ atC c t l[i] = true := by
  have hp := List.pairwise_iff_getElem.mp v.ap
  have uniq : ∀ j (hj : j < l.length), j < i → atC c t l[j] = true → atC c t l[i] = true → False := by
    intro j hj hji h1 h2
    simp only [atC, Bool.and_eq_true, decide_eq_true_eq] at h1 h2
    have := hp j i hj hi hji (by rw [h1.1, h2.1])
    have e := endW_eq l[j] (v.all _ (List.getElem_mem hj))
    omega
  have uniq2 : ∀ j (hj : j < l.length), i < j → atC c t l[j] = true → atC c t l[i] = true → False := by
    intro j hj hji h1 h2
    simp only [atC, Bool.and_eq_true, decide_eq_true_eq] at h1 h2
    have := hp i j hi hj hji (by rw [h1.1, h2.1])
    have e := endW_eq l[i] (v.all _ (List.getElem_mem hi))
    omega
  rcases firstI_spec (atC c t) l 0 with ⟨h1, h2⟩ | ⟨j, hj, h1, h2, h3⟩
  · rw [h1, h2 _ (List.getElem_mem hi)]
    constructor
    · intro h; omega
    · intro h; cases h
  · rw [h1]
    constructor
    · intro h
      have : j = i := by omega
      subst this; exact h2
    · intro h
      rcases Nat.lt_trichotomy j i with hlt | rfl | hgt
      · exact (uniq j hj hlt h2 h).elim
      · simp
      · exact (uniq2 j hj hgt h2 h).elim
theorem lt9_ {c d : Nat} (h : c + (d + 1) = 9) : (c : Int) < 9 := by omega
theorem bne_bb (b : Bool) : (b != b) = false := by cases b <;> rfl
theorem col_inner (l : List S29) (n t c a n' : Int) (v : StaffOk l n) (hl : l.length ≤ 1000) (r : Bool) (hend : Ev (fun k => if a ≥ 0 then (if 0 ≤ a then (if a < (l.length : Int) then (if ((rd_T29 l a).f1) = c then (dancestudiolaw24_StaffColumns.l0 k l n t n' (wrap64 (c + 1))) else (none)) else (none)) else (none)) else (dancestudiolaw24_StaffColumns.l0 k l n t n' (wrap64 (c + 1)))) r) (ha : a = firstI (atC c t) 0 l) :
    ∀ d i, i + d = l.length → Ev (fun k => dancestudiolaw24_StaffColumns.l1 k l n t n' c (l.filter (fun s => decide (s.f1 = c))) a (((l.take i).filter (fun s => decide (s.f1 = c))).length : Int) (i : Int)) r := by
  intro d
  induction d with
  | zero =>
    intro i hi
    refine Ev.succ ?_
    simp only [dancestudiolaw24_StaffColumns.l1, ltI, show ¬ i < l.length by omega, ↓reduceIte]
    exact hend
  | succ d ih =>
    intro i hi
    have h : i < l.length := by omega
    have ih' := ih (i + 1) (by omega)
    have htk : (l.take (i + 1)).filter (fun s => decide (s.f1 = c)) = (l.take i).filter (fun s => decide (s.f1 = c)) ++ (if l[i].f1 = c then [l[i]] else []) := by
      rw [List.take_add_one, List.getElem?_eq_getElem h, List.filter_append]
      by_cases e : l[i].f1 = c <;> simp [e]
    rw [htk] at ih'
    refine Ev.succ ?_
    simp only [dancestudiolaw24_StaffColumns.l1, ltI, h, ge0, ↓reduceIte, rd29_at h, wrapS h (by omega : l.length ≤ 1000000)]
    by_cases e : l[i].f1 = c
    · simp only [e, ↓reduceIte] at ih' ⊢
      have hs : l.filter (fun s => decide (s.f1 = c)) = (l.take i).filter (fun s => decide (s.f1 = c)) ++ l[i] :: (l.drop (i + 1)).filter (fun s => decide (s.f1 = c)) := by
        conv => lhs; rw [← List.take_append_drop i l, List.filter_append, drop_cons29 h, List.filter_cons_of_pos (by simpa using e)]
      have hlt : ((l.take i).filter (fun s => decide (s.f1 = c))).length < (l.filter (fun s => decide (s.f1 = c))).length := by rw [hs, List.length_append, List.length_cons]; omega
      have hget : (l.filter (fun s => decide (s.f1 = c)))[((l.take i).filter (fun s => decide (s.f1 = c))).length] = l[i] := by
        simp only [hs, List.getElem_append_right (Nat.le_refl _), Nat.sub_self, List.getElem_cons_zero]
      have hj : wrap64 ((((l.take i).filter (fun s => decide (s.f1 = c))).length : Int) + 1) = (((l.take i).filter (fun s => decide (s.f1 = c)) ++ [l[i]]).length : Int) := by
        have := List.length_filter_le (fun s : S29 => decide (s.f1 = c)) (l.take i)
        rw [List.length_take] at this
        rw [List.length_append, List.length_singleton]; unfold wrap64; omega
      simp only [GE.ge, Int.not_le.mpr (ltI.mpr hlt), Int.ofNat_le, Nat.not_le.mpr hlt, ↓reduceIte, ltI, hlt, rd29_at hlt, hget, e, beq_self_eq_true, Bool.not_true, Bool.or_self, Bool.false_eq_true, hj]
      have hat := at_iff v c t i h e
      rw [← ha] at hat
      have hb : (a == (i : Int)) = (decide (l[i].f2 ≤ t) && decide (t < wrap64 (l[i].f2 + l[i].f3))) := by
        rw [Bool.eq_iff_iff, beq_iff_eq, hat]; simp [atC, e, endW]; intro _; exact decide_eq_true_iff
      by_cases c1 : l[i].f2 ≤ t
      · simp only [c1, ↓reduceIte, hb, decide_true, Bool.true_and, bne_bb, Bool.false_eq_true]; exact ih'
      · simp only [c1, ↓reduceIte, hb, decide_false, Bool.false_and, bne_bb, Bool.false_eq_true]; exact ih'
    · simp only [e, ↓reduceIte, List.append_nil] at ih' ⊢; exact ih'
theorem count_cols : ∀ (l : List S29), (∀ s ∈ l, 0 ≤ s.f1 ∧ s.f1 ≤ 8) → ∀ c : Nat, c ≤ 9 → ((l.filter (fun s => decide (s.f1 < (c : Int)))).length : Int) = (((List.range c).map (fun j : Nat => (l.filter (fun s => decide (s.f1 = (j : Int)))).length)).sum : Nat) := by
  intro l hl c
  induction c with
  | zero => intro _; simp; intro s hs; have := hl s hs; omega
  | succ c ih =>
    intro hc
    have ih' := ih (by omega)
    rw [List.range_succ, List.map_append, List.sum_append]
    have : (l.filter (fun s => decide (s.f1 < ((c + 1 : Nat) : Int)))).length = (l.filter (fun s => decide (s.f1 < (c : Int)))).length + (l.filter (fun s => decide (s.f1 = (c : Int)))).length := by
      clear ih ih' hl
      induction l with
      | nil => rfl
      | cons s l ih =>
        simp only [List.filter_cons]
        rcases Int.lt_trichotomy s.f1 (c : Int) with h | h | h
        · rw [if_pos (by simp; omega), if_pos (by simp; omega), if_neg (by simp; omega)]; simp only [List.length_cons]; omega
        · rw [if_pos (by simp; omega), if_neg (by simp; omega), if_pos (by simp; omega)]; simp only [List.length_cons]; omega
        · rw [if_neg (by simp; omega), if_neg (by simp; omega), if_neg (by simp; omega)]; omega
    simp only [List.map_cons, List.map_nil, List.sum_cons, List.sum_nil]
    omega
theorem StaffColumns (l0 : List S29) (a1 : Int) (a2 : Int) (w0 : l0.length ≤ maxLen ∧ l0.length * 56 ≤ 140737488351232 ∧ ∀ y ∈ l0, (okI y.f0 ∧ okI y.f1 ∧ okI y.f2 ∧ okI y.f3 ∧ okI y.f4 ∧ okI y.f5 ∧ okI y.f6)) (w1 : okI a1) (w2 : okI a2) : ∃ k, dancestudiolaw24_StaffColumns.f k l0 a1 a2 = some true := by
  refine Ev.rounds ?_
  unfold dancestudiolaw24_StaffColumns.f staff_Check.f
  simp only [Option.bind_some, GT.gt, GE.ge]
  by_cases h0 : 60 < (l0.length : Int)
  · simp only [h0, ↓reduceIte]; exact awt24
  · simp only [h0, ↓reduceIte]
    by_cases h1 : chkS l0 a1 = 0
    · simp only [h1, ↓reduceIte]
      by_cases h2 : a2 < 0
      · simp only [h2, ↓reduceIte]; exact awt24
      · by_cases h3 : a1 ≤ a2
        · simp only [h2, h3, ↓reduceIte]; exact awt24
        · simp only [h2, h3, ↓reduceIte]
          have v := (chkS_ok _ _).mp h1
          have hin : ∀ s ∈ l0, 0 ≤ s.f1 ∧ s.f1 ≤ 8 := fun s hs => by have := chkO_in s (v.all s hs); omega
          have main : ∀ d c : Nat, c + d = 9 → Ev (fun k => dancestudiolaw24_StaffColumns.l0 k l0 a1 a2 ((l0.filter (fun s => decide (s.f1 < (c : Int)))).length : Int) (c : Int)) true := by
            intro d
            induction d with
            | zero =>
              intro c hc
              obtain rfl : c = 9 := by omega
              refine Ev.succ ?_
              have : l0.filter (fun s => decide (s.f1 < ((9 : Nat) : Int))) = l0 := List.filter_eq_self.mpr (by intro s hs; have := hin s hs; simp; omega)
              simp only [dancestudiolaw24_StaffColumns.l0, this, show ¬ ((9 : Nat) : Int) < 9 by decide, ↓reduceIte]
              exact awt24
            | succ d ih =>
              intro c hc
              have ih' := ih (c + 1) (by omega)
              have h9 : (c : Int) < 9 := lt9_ hc
              refine Ev.succ ?_
              have ec : columnP l0 a1 (c : Int) = (l0.filter (fun s => decide (s.f1 = (c : Int))), 0) := by
                rw [columnP_eq]; unfold colR; rw [if_neg (not_not_intro h1), if_neg (by omega)]
              have ea : atP l0 a1 (c : Int) a2 = (firstI (atC (c : Int) a2) 0 l0, 0) := by
                rw [atP_eq]; unfold atR24; rw [if_neg (not_not_intro h1), if_neg (by omega), if_neg (by omega)]
              have hlt : ((l0.filter (fun s => decide (s.f1 < ((c + 1 : Nat) : Int)))).length : Int) = ((l0.filter (fun s => decide (s.f1 < (c : Int)))).length : Int) + ((l0.filter (fun s => decide (s.f1 = (c : Int)))).length : Int) := by
                rw [count_cols l0 hin (c + 1) (by omega), count_cols l0 hin c (by omega), List.range_succ, List.map_append, List.sum_append]
                simp
              have hw : wrap64 (((l0.filter (fun s => decide (s.f1 < (c : Int)))).length : Int) + ((l0.filter (fun s => decide (s.f1 = (c : Int)))).length : Int)) = ((l0.filter (fun s => decide (s.f1 < ((c + 1 : Nat) : Int)))).length : Int) := by
                rw [hlt]
                have k1 := List.length_filter_le (fun s : S29 => decide (s.f1 < (c : Int))) l0
                have k2 := List.length_filter_le (fun s : S29 => decide (s.f1 = (c : Int))) l0
                unfold wrap64; omega
              have hwc : wrap64 ((c : Int) + 1) = ((c + 1 : Nat) : Int) := by unfold wrap64; omega
              simp only [dancestudiolaw24_StaffColumns.l0, h9, ↓reduceIte, staff_Column.f, staff_At.f, Option.bind_some, ec, ea, GE.ge, hw]
              have hinner : Ev (fun k => dancestudiolaw24_StaffColumns.l1 k l0 a1 a2 ((l0.filter (fun s => decide (s.f1 < ((c + 1 : Nat) : Int)))).length : Int) (c : Int) (l0.filter (fun s => decide (s.f1 = (c : Int)))) (firstI (atC (c : Int) a2) 0 l0) 0 0) true := by
                refine col_inner l0 a1 a2 (c : Int) _ _ v (by omega) true ?_ rfl l0.length 0 (by omega)
                rw [hwc]
                rcases firstI_spec (atC (c : Int) a2) l0 0 with ⟨k1, k2⟩ | ⟨j, hj, k1, k2, k3⟩
                · simp only [k1, show ¬ (-1 : Int) ≥ 0 by decide, ↓reduceIte]; exact ih'
                · have hk : l0[j].f1 = (c : Int) := by simp only [atC, Bool.and_eq_true, decide_eq_true_eq] at k2; exact k2.1
                  rw [k1]
                  simp only [Nat.zero_add, GE.ge, ge0, ↓reduceIte, ltI, hj, rd29_at hj, hk]; exact ih'
              rcases firstI_spec (atC (c : Int) a2) l0 0 with ⟨k1, k2⟩ | ⟨j, hj, k1, k2, k3⟩
              · rw [k1] at hinner ⊢
                simp only [show ¬ (-1 : Int) < -1 by decide, show ¬ (l0.length : Int) ≤ -1 by omega, ↓reduceIte]; exact hinner
              · rw [k1] at hinner ⊢
                simp only [show ¬ (((0 + j : Nat) : Int)) < -1 by omega, show ¬ (l0.length : Int) ≤ ((0 + j : Nat) : Int) by omega, ↓reduceIte]; exact hinner
          have := main 9 0 (by omega)
          have e0 : l0.filter (fun s => decide (s.f1 < ((0 : Nat) : Int))) = [] := List.filter_eq_nil_iff.mpr (by intro s hs; have := hin s hs; simp; omega)
          rw [e0] at this
          exact this
    · simp only [h1, ↓reduceIte]; exact awt24
end Go.Proofs.Ytdilndbanhianaa.Pure

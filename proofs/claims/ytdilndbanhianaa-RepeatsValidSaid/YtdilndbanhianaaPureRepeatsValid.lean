/- The plain statement of RepeatsValid; no condition. -/
import Derived.Test.YtdilndbanhianaaP55
import Derived.Test.YtdilndbanhianaaAwakeB
import Derived.Test.YtdilndbanhianaaRepsV
import Derived.Test.YtdilndbanhianaaVOpen
set_option linter.unusedVariables false
set_option linter.unusedSimpArgs false
namespace Go.Proofs.Ytdilndbanhianaa.Pure
open Go.RowKit Go.Proofs.Ytdilndbanhianaa.P Go.Proofs.Ytdilndbanhianaa.Open Go.Proofs.YtdilndbanhianaaW.PrintWords Go.Proofs.YtdilndbanhianaaW.PrintLast Go.Proofs.YtdilndbanhianaaW.PrintMore
theorem valid_l1 (p l : List S29) (N T n : Int) (r : List S61) (hl : l.length ≤ 256) (S0 m f t : Int) (j : Int) (hS : 0 ≤ S0 ∧ S0 ≤ 1000000) (hm : 1 ≤ m ∧ m ≤ 15) (res : Bool)
    (hrest : Ev (fun k => dancestudiolaw26_RepeatsValid.l0 k p N T (S0 + ((withinP l ⟨f, t⟩).length : Int) * m) (wrap64 (j + 1)) l n r) res) : ∀ d i : Nat, i + d = l.length →
    Ev (fun k => dancestudiolaw26_RepeatsValid.l1 k p N T (S0 + (((l.take i).filter (inB f t)).length : Int) * m) j m (i : Int) l n r f t) res := by
  intro d
  induction d with
  | zero =>
    intro i hi
    refine Ev.succ ?_
    rw [List.take_of_length_le (by omega)]
    simp only [dancestudiolaw26_RepeatsValid.l1, ltI, show ¬ i < l.length by omega, ↓reduceIte]
    exact hrest
  | succ d ih =>
    intro i hi
    have h : i < l.length := by omega
    have ih' := ih (i + 1) (by omega)
    have htk : ((l.take (i + 1)).filter (inB f t)) = (l.take i).filter (inB f t) ++ (if inB f t l[i] = true then [l[i]] else []) := by
      rw [List.take_add_one, List.getElem?_eq_getElem h, List.filter_append]
      cases hh : inB f t l[i] <;> simp [hh]
    refine Ev.succ ?_
    simp only [dancestudiolaw26_RepeatsValid.l1, ltI, h, ge0, ↓reduceIte, rd29_at h, wrapS h (by omega : l.length ≤ 1000000), GE.ge]
    rw [htk] at ih'
    by_cases c1 : f ≤ l[i].f2
    · by_cases c2 : l[i].f2 < t
      · have hin : inB f t l[i] = true := by simp [inB, c1, c2]
        rw [if_pos hin, List.length_append, List.length_singleton] at ih'
        have hle : ((l.take i).filter (inB f t)).length ≤ 256 := by
          have := List.length_filter_le (inB f t) (l.take i)
          rw [List.length_take] at this; omega
        have e : (((((l.take i).filter (inB f t)).length + 1 : Nat) : Int)) * m = (((l.take i).filter (inB f t)).length : Int) * m + m := by rw [Int.natCast_add, Int.add_mul]; simp
        have b1 : 0 ≤ (((l.take i).filter (inB f t)).length : Int) * m := Int.mul_nonneg (by omega) (by omega)
        have b2 : (((l.take i).filter (inB f t)).length : Int) * m ≤ 256 * 15 := Int.mul_le_mul (by omega) (by omega) (by omega) (by omega)
        have ew : wrap64 (S0 + (((l.take i).filter (inB f t)).length : Int) * m + m) = S0 + ((((l.take i).filter (inB f t)).length : Int) * m + m) := by
          rw [wrap_in _ (by omega) (by omega)]; omega
        rw [e] at ih'
        simp only [c1, c2, ↓reduceIte, ew]
        exact ih'
      · have hin : ¬ inB f t l[i] = true := by simp [inB, c2]
        rw [if_neg hin, List.append_nil] at ih'
        simp only [c1, c2, ↓reduceIte]; exact ih'
    · have hin : ¬ inB f t l[i] = true := by simp [inB, c1]
      rw [if_neg hin, List.append_nil] at ih'
      simp only [c1, ↓reduceIte]; exact ih'
theorem valid_l0 (p l : List S29) (n : Int) (r : List S61) (hl : l.length ≤ 256) (hr : r.length ≤ 16) (h0 : 1 ≤ n) (hn : n ≤ 8192) (hb : r.any (badR n) = false) (hp : (p.length : Int) = l.length + addC l r r.length) : ∀ d i : Nat, i + d = r.length →
    Ev (fun k => dancestudiolaw26_RepeatsValid.l0 k p (n + addT r r.length) (n + addT r i) ((l.length : Int) + addC l r i) (i : Int) l n r) true := by
  intro d
  induction d with
  | zero =>
    intro i hi
    obtain rfl : i = r.length := by omega
    refine Ev.succ ?_
    simp only [dancestudiolaw26_RepeatsValid.l0, ltI, Nat.lt_irrefl, ↓reduceIte, hp]
    exact awt26
  | succ d ih =>
    intro i hi
    have h : i < r.length := by omega
    have ih' := ih (i + 1) (by omega)
    have hbad := List.any_eq_false.mp hb r[i] (List.getElem_mem h)
    simp only [badR, Bool.or_eq_true, decide_eq_true_eq, not_or] at hbad
    obtain ⟨b1, b2, b3, b4, b5⟩ := hbad
    have tb := addT_b hn hb i (by omega)
    have cb := addC_b (l := l) hl hb i (by omega)
    rw [addT_step r i h, addC_step l r i h] at ih'
    have m1 : wrap64 (r[i].f1 - 1) = r[i].f1 - 1 := wrap_in _ (by omega) (by omega)
    have m2 : wrap64 (r[i].f0.f1 - r[i].f0.f0) = r[i].f0.f1 - r[i].f0.f0 := wrap_in _ (by omega) (by omega)
    have p1 : 0 ≤ (r[i].f0.f1 - r[i].f0.f0) * (r[i].f1 - 1) := Int.mul_nonneg (by omega) (by omega)
    have p2 : (r[i].f0.f1 - r[i].f0.f0) * (r[i].f1 - 1) ≤ 8192 * 16 := Int.mul_le_mul (by omega) (by omega) (by omega) (by omega)
    have m3 : wrap64 ((r[i].f0.f1 - r[i].f0.f0) * (r[i].f1 - 1)) = (r[i].f0.f1 - r[i].f0.f0) * (r[i].f1 - 1) := wrap_in _ (by omega) (by omega)
    have m4 : wrap64 (n + addT r i + (r[i].f0.f1 - r[i].f0.f0) * (r[i].f1 - 1)) = n + (addT r i + (r[i].f0.f1 - r[i].f0.f0) * (r[i].f1 - 1)) := by rw [wrap_in _ (by omega) (by omega)]; omega
    refine Ev.succ ?_
    simp only [dancestudiolaw26_RepeatsValid.l0, ltI, h, ge0, ↓reduceIte, rd61_at h, GE.ge, GT.gt, b1, show ¬ 8192 < r[i].f0.f1 by omega, b2, m1, show ¬ r[i].f1 - 1 < 1 by omega, show ¬ 15 < r[i].f1 - 1 by omega, m2, m3, m4]
    have := valid_l1 p l (n + addT r r.length) (n + (addT r i + (r[i].f0.f1 - r[i].f0.f0) * (r[i].f1 - 1))) n r hl ((l.length : Int) + addC l r i) (r[i].f1 - 1) r[i].f0.f0 r[i].f0.f1 (i : Int) ⟨by omega, by omega⟩ ⟨by omega, by omega⟩ true
      (by rw [wrapS h (by omega : r.length ≤ 1000000), Int.add_assoc]; exact ih') l.length 0 (by omega)
    simpa using this
theorem RepeatsValid (l0_0 : List S29) (a0_1 : Int) (l0_2 : List S61) (w0_0 : l0_0.length ≤ maxLen ∧ l0_0.length * 56 ≤ 140737488351232 ∧ ∀ y ∈ l0_0, (okI y.f0 ∧ okI y.f1 ∧ okI y.f2 ∧ okI y.f3 ∧ okI y.f4 ∧ okI y.f5 ∧ okI y.f6)) (w0_1 : okI a0_1) (w0_2 : l0_2.length ≤ maxLen ∧ l0_2.length * 24 ≤ 140737488351232 ∧ ∀ y ∈ l0_2, ((okI y.f0.f0 ∧ okI y.f0.f1) ∧ okI y.f1)) : ∃ k, dancestudiolaw26_RepeatsValid.f k l0_0 a0_1 l0_2 = some true := by
  refine Ev.rounds ?_
  unfold dancestudiolaw26_RepeatsValid.f dancestudiolaw26_great.f repeats_Perform.f repeats_Check.f staff_Check.f
  simp only [length_eq, Option.bind_some, decide_eq_true_eq, GT.gt]
  by_cases h : 60 < (l0_0.length : Int)
  · simp only [h, ↓reduceIte]; exact awt26
  · simp only [h, ↓reduceIte]
    by_cases hc : rCheckP l0_0 a0_1 l0_2 = 0
    · obtain ⟨k1, k2, k3, k4, k5, k6, k7⟩ := rCheckP_facts hc
      have v := (chkS_ok l0_0 a0_1).mp k1
      have e1 : (rPerformP l0_0 a0_1 l0_2).2 = 0 := by unfold rPerformP; rw [if_neg (not_not_intro hc)]
      have e2 : rLengthP l0_0 a0_1 l0_2 = (perfP a0_1 l0_2, 0) := by unfold rLengthP; rw [if_pos hc]
      obtain ⟨q1, q2, q3⟩ := perform_ok hc
      have e3 : chkS (rPerformP l0_0 a0_1 l0_2).1 (perfP a0_1 l0_2) = 0 := (chkS_ok _ _).mpr q1
      simp only [e1, e2, e3, ↓reduceIte, show ¬ 16 < (l0_2.length : Int) by omega]
      rw [q2]
      have := valid_l0 (rPerformP l0_0 a0_1 l0_2).1 l0_0 a0_1 l0_2 v.len k2 v.n0 v.n1 k3 q3 l0_2.length 0 (by omega)
      simpa [addT, addC] using this
    · have e1 : rPerformP l0_0 a0_1 l0_2 = ([], rCheckP l0_0 a0_1 l0_2) := by unfold rPerformP; rw [if_pos hc]
      have e2 : rLengthP l0_0 a0_1 l0_2 = (0, rCheckP l0_0 a0_1 l0_2) := by unfold rLengthP; rw [if_neg hc]
      simp only [e1, e2, hc, ↓reduceIte]
      exact awt26
end Go.Proofs.Ytdilndbanhianaa.Pure

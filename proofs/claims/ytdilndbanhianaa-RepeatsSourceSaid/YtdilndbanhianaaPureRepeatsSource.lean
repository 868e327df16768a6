/- The plain statement of RepeatsSource; no condition. -/
import Derived.Test.YtdilndbanhianaaP54
import Derived.Test.YtdilndbanhianaaAwakeB
import Derived.Test.YtdilndbanhianaaRepsB
import Derived.Test.YtdilndbanhianaaVOpen
set_option linter.unusedVariables false
set_option linter.unusedSimpArgs false
namespace Go.Proofs.Ytdilndbanhianaa.Pure
open Go.RowKit Go.Proofs.Ytdilndbanhianaa.P Go.Proofs.Ytdilndbanhianaa.Open Go.Proofs.YtdilndbanhianaaW.PrintWords Go.Proofs.YtdilndbanhianaaW.PrintLast Go.Proofs.YtdilndbanhianaaW.PrintMore
def bgT : Option S29 → Int × Int × Int × Int × Int × Int × Int × Bool
  | some s => (s.f0, s.f1, s.f2, s.f3, s.f4, s.f5, s.f6, true)
  | none => (0, 0, 0, 0, 0, 0, 0, false)
theorem begins_eq (l : List S29) (c t : Int) (hl : l.length ≤ 1000000) : Ev (fun k => dancestudiolaw26_begins.f k l c t) (bgT (fnd c t l)) := by
  have main : ∀ d i, i + d = l.length → Ev (fun k => dancestudiolaw26_begins.l0 k l c t (i : Int)) (bgT (fnd c t (l.drop i))) := by
    intro d
    induction d with
    | zero =>
      intro i hi
      refine Ev.succ ?_
      rw [show l.drop i = [] from List.drop_eq_nil_of_le (by omega)]
      simp only [dancestudiolaw26_begins.l0, ltI, show ¬ i < l.length by omega, ↓reduceIte]
      exact Ev.now _
    | succ d ih =>
      intro i hi
      have h : i < l.length := by omega
      have ih' := ih (i + 1) (by omega)
      refine Ev.succ ?_
      rw [drop_cons29 h]
      simp only [dancestudiolaw26_begins.l0, ltI, h, ge0, ↓reduceIte, rd29_at h, wrapS h (by omega : l.length ≤ 1000000)]
      by_cases c1 : l[i].f1 = c
      · by_cases c2 : l[i].f2 = t
        · have e : fndB c t l[i] = true := by simp [fndB, c1, c2]
          rw [fnd_yes _ e]; exact Ev.congr (f := fun _ => some (bgT (some (zS l[i])))) (fun k => by rw [if_pos c1, if_pos c2]; rfl) (Ev.now _)
        · have e : fndB c t l[i] = false := by simp [fndB, c2]
          rw [fnd_not _ e]; exact Ev.congr (fun k => by rw [if_pos c1, if_neg c2]) ih'
      · have e : fndB c t l[i] = false := by simp [fndB, c1]
        rw [fnd_not _ e]; exact Ev.congr (fun k => by rw [if_neg c1]) ih'
  have := main l.length 0 (by omega)
  rw [List.drop_zero] at this
  exact this
theorem source_l0 (p l : List S29) (n : Int) (r : List S61) (t s : Int) (hp : p.length ≤ 1000000) (hl : l.length ≤ 1000000) (h : ∀ c : Int, fnd c t p = fnd c s l) : ∀ d i : Nat, i + d = 9 →
    Ev (fun k => dancestudiolaw26_RepeatsSource.l0 k t p s (i : Int) l n r) true := by
  intro d
  induction d with
  | zero =>
    intro i hi
    refine Ev.succ ?_
    simp only [dancestudiolaw26_RepeatsSource.l0, show ¬ (i : Int) < 9 by omega, ↓reduceIte]
    exact awt26
  | succ d ih =>
    intro i hi
    have ih' := ih (i + 1) (by omega)
    refine Ev.succ ?_
    simp only [dancestudiolaw26_RepeatsSource.l0, show (i : Int) < 9 by omega, ↓reduceIte]
    refine Ev.bind (begins_eq p (i : Int) t hp) ?_
    refine Ev.bind (begins_eq l (i : Int) s hl) ?_
    rw [h]
    simp only [bne_self_eq_false, Bool.false_eq_true, ↓reduceIte, beq_self_eq_true, Bool.not_true, Bool.or_self]
    rw [show wrap64 ((i : Int) + 1) = ((i + 1 : Nat) : Int) by unfold wrap64; omega]
    exact ih'
theorem RepeatsSource (l0_0 : List S29) (a0_1 : Int) (l0_2 : List S61) (a1 : Int) (w0_0 : l0_0.length ≤ maxLen ∧ l0_0.length * 56 ≤ 140737488351232 ∧ ∀ y ∈ l0_0, (okI y.f0 ∧ okI y.f1 ∧ okI y.f2 ∧ okI y.f3 ∧ okI y.f4 ∧ okI y.f5 ∧ okI y.f6)) (w0_1 : okI a0_1) (w0_2 : l0_2.length ≤ maxLen ∧ l0_2.length * 24 ≤ 140737488351232 ∧ ∀ y ∈ l0_2, ((okI y.f0.f0 ∧ okI y.f0.f1) ∧ okI y.f1)) (w1 : okI a1) : ∃ k, dancestudiolaw26_RepeatsSource.f k l0_0 a0_1 l0_2 a1 = some true := by
  refine Ev.rounds ?_
  unfold dancestudiolaw26_RepeatsSource.f dancestudiolaw26_great.f repeats_Perform.f repeats_Source.f
  simp only [length_eq, Option.bind_some, decide_eq_true_eq, GT.gt]
  by_cases h : 60 < (l0_0.length : Int)
  · simp only [h, ↓reduceIte]; exact awt26
  · simp only [h, ↓reduceIte]
    by_cases hc : rCheckP l0_0 a0_1 l0_2 = 0
    · have v := (chkS_ok l0_0 a0_1).mp (rCheckP_facts hc).1
      have e1 : (rPerformP l0_0 a0_1 l0_2).2 = 0 := by unfold rPerformP; rw [if_neg (not_not_intro hc)]
      have e2 : rLengthP l0_0 a0_1 l0_2 = (perfP a0_1 l0_2, 0) := by unfold rLengthP; rw [if_pos hc]
      simp only [e1, e2, ↓reduceIte]
      by_cases c1 : a1 < 0
      · have e3 : rSourceP l0_0 a0_1 l0_2 a1 = (0, 1) := by unfold rSourceP; rw [if_neg (not_not_intro hc)]; simp [c1]
        simp only [e3, c1, ↓reduceIte]; exact awt26
      · simp only [c1, ↓reduceIte, GE.ge]
        by_cases c2 : perfP a0_1 l0_2 ≤ a1
        · have e3 : rSourceP l0_0 a0_1 l0_2 a1 = (0, 1) := by unfold rSourceP; rw [if_neg (not_not_intro hc)]; simp [c2]
          simp only [e3, c2, ↓reduceIte]; exact awt26
        · have h0 : 0 ≤ a1 := by omega
          have h1 : a1 < perfP a0_1 l0_2 := by omega
          have e3 : rSourceP l0_0 a0_1 l0_2 a1 = (srchv a1 (secsP a0_1 l0_2), 0) := by
            unfold rSourceP; rw [if_neg (not_not_intro hc), if_neg (by omega), if_neg c2, (source_val hc a1 h0 h1).1]
          have hf := fun c => perform_fnd hc c a1 h0 h1
          obtain ⟨-, b0, b1⟩ := hf 0
          simp only [e3, c2, ↓reduceIte, show ¬ srchv a1 (secsP a0_1 l0_2) < 0 by omega, show ¬ a0_1 ≤ srchv a1 (secsP a0_1 l0_2) by omega]
          exact source_l0 _ _ a0_1 l0_2 a1 _ (rPerformP_small _ _ _) (by have := v.len; omega) (fun c => (hf c).1) 9 0 rfl
    · have e1 : rPerformP l0_0 a0_1 l0_2 = ([], rCheckP l0_0 a0_1 l0_2) := by unfold rPerformP; rw [if_pos hc]
      have e2 : rLengthP l0_0 a0_1 l0_2 = (0, rCheckP l0_0 a0_1 l0_2) := by unfold rLengthP; rw [if_neg hc]
      simp only [e1, e2, hc, ↓reduceIte, List.length_nil, Int.ofNat_zero]
      exact awt26
end Go.Proofs.Ytdilndbanhianaa.Pure

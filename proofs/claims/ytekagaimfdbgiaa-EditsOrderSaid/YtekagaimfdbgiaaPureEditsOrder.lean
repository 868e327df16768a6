/- The plain statement of EditsOrder: Less is a strict total order of stamps; no condition. -/
import Derived.Test.YtekagaimfdbgiaaP32
import Derived.Test.YtekagaimfdbgiaaAwakeEq
import Derived.Test.YtekagaimfdbgiaaEditsP
import Derived.Test.YtekagaimfdbgiaaOpen
set_option linter.unusedVariables false
set_option linter.unusedSimpArgs false
namespace Go.Proofs.Ytekagaimfdbgiaa.Pure
open Go.RowKit Go.Proofs.Ytekagaimfdbgiaa.P Go.Proofs.Ytekagaimfdbgiaa.Open Go.Proofs.YtekagaimfdbgiaaW.PrintWords Go.Proofs.YtekagaimfdbgiaaW.PrintLast Go.Proofs.YtekagaimfdbgiaaW.PrintMore
theorem EditsOrder (a0_0 : Int) (a0_1 : Int) (a1_0 : Int) (a1_1 : Int) (a2_0 : Int) (a2_1 : Int) (w0_0 : okI a0_0) (w0_1 : okI a0_1) (w1_0 : okI a1_0) (w1_1 : okI a1_1) (w2_0 : okI a2_0) (w2_1 : okI a2_1) : ∃ k, dancestudiolaw56_EditsOrder.f k a0_0 a0_1 a1_0 a1_1 a2_0 a2_1 = some true := by
  refine ⟨60, ?_⟩
  unfold dancestudiolaw56_EditsOrder.f
  simp only [eless_eq, awake_eq 60 (Nat.le_refl _), Option.bind_some]
  obtain ⟨ab, h1⟩ : ∃ x, x = lessP a0_0 a0_1 a1_0 a1_1 := ⟨_, rfl⟩
  obtain ⟨ba, h2⟩ : ∃ x, x = lessP a1_0 a1_1 a0_0 a0_1 := ⟨_, rfl⟩
  obtain ⟨bc, h3⟩ : ∃ x, x = lessP a1_0 a1_1 a2_0 a2_1 := ⟨_, rfl⟩
  obtain ⟨ac, h4⟩ : ∃ x, x = lessP a0_0 a0_1 a2_0 a2_1 := ⟨_, rfl⟩
  obtain ⟨ne, h6⟩ : ∃ x, x = (!(a0_0 == a1_0) || (!(a0_1 == a1_1))) := ⟨_, rfl⟩
  have h5 : lessP a0_0 a0_1 a0_0 a0_1 = false := by simp [lessP]
  have k1 : (ab && ba) = false := by
    rw [h1, h2]; simp only [lessP, Bool.and_eq_false_iff, decide_eq_false_iff_not]; omega
  have k2 : (ab && bc && !ac) = false := by
    rw [h1, h3, h4]; simp only [lessP, Bool.and_eq_false_iff, Bool.not_eq_false', decide_eq_false_iff_not, decide_eq_true_eq]; omega
  have k3 : (ab || ba) = ne := by
    rw [h1, h2, h6, Bool.eq_iff_iff]; simp only [lessP, Bool.or_eq_true, Bool.not_eq_true', beq_eq_false_iff_ne, decide_eq_true_eq]; omega
  have k4 : a0_0 < a1_0 → ab = true := by
    intro h; rw [h1]; simp only [lessP, decide_eq_true_eq]; omega
  rw [← h1, ← h2, ← h3, ← h4, h5, ← h6]
  clear h1 h2 h3 h4 h6
  by_cases h : a0_0 < a1_0
  · have := k4 h; subst this
    subst k3
    cases ba <;> cases bc <;> cases ac <;> first | (simp [h]; done) | (exact absurd k1 (by decide)) | (exact absurd k2 (by decide))
  · subst k3
    cases ab <;> cases ba <;> cases bc <;> cases ac <;> first | (simp [h]; done) | (exact absurd k1 (by decide)) | (exact absurd k2 (by decide))
end Go.Proofs.Ytekagaimfdbgiaa.Pure

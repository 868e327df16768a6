/- The plain statement of EditsNexts: Next returns the specified stamp or error; no condition. -/
import Derived.Test.YtekagaimfdbgiaaP29
import Derived.Test.YtekagaimfdbgiaaAwakeEq
import Derived.Test.YtekagaimfdbgiaaEditsP
import Derived.Test.YtekagaimfdbgiaaRNextP
import Derived.Test.YtekagaimfdbgiaaOpen
set_option linter.unusedVariables false
set_option linter.unusedSimpArgs false
namespace Go.Proofs.Ytekagaimfdbgiaa.Pure
open Go.RowKit Go.Proofs.Ytekagaimfdbgiaa.P Go.Proofs.Ytekagaimfdbgiaa.Open Go.Proofs.YtekagaimfdbgiaaW.PrintWords Go.Proofs.YtekagaimfdbgiaaW.PrintLast Go.Proofs.YtekagaimfdbgiaaW.PrintMore
theorem EditsNexts (a0 : Int) (l1 : List S23) (w0 : okI a0) (w1 : l1.length ≤ maxLen ∧ l1.length * 16 ≤ 140737488351232 ∧ ∀ y ∈ l1, ((okI y.f0) ∧ (okI y.f1))) : ∃ k, dancestudiolaw56_EditsNexts.f k a0 l1 = some true := by
  have hl : l1.length < 140737488355328 := by have := w1.2.1; omega
  obtain ⟨K, hK⟩ : ∃ K, K = l1.length + 100 := ⟨_, rfl⟩
  have aw : dancestudiolaw56_awake.f K = some true := awake_eq _ (by omega)
  refine ⟨K, ?_⟩
  unfold dancestudiolaw56_EditsNexts.f
  rw [next_eq K a0 l1 hl (by omega), rnext_eq K a0 l1 hl (by omega), aw]
  simp
end Go.Proofs.Ytekagaimfdbgiaa.Pure

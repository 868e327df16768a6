/- The plain statement of EditsTakes: Take returns the specified edit or error; no condition. -/
import Derived.Test.YtekagaimfdbgiaaP27
import Derived.Test.YtekagaimfdbgiaaTakesP
import Derived.Test.YtekagaimfdbgiaaOpen
set_option linter.unusedVariables false
set_option linter.unusedSimpArgs false
namespace Go.Proofs.Ytekagaimfdbgiaa.Pure
open Go.RowKit Go.Proofs.Ytekagaimfdbgiaa.P Go.Proofs.Ytekagaimfdbgiaa.Open Go.Proofs.YtekagaimfdbgiaaW.PrintWords Go.Proofs.YtekagaimfdbgiaaW.PrintLast Go.Proofs.YtekagaimfdbgiaaW.PrintMore
theorem EditsTakes (l0 : List Int) (w0 : l0.length ≤ maxLen ∧ l0.length * 1 ≤ 140737488351232 ∧ ∀ y ∈ l0, (0 ≤ y ∧ y ≤ 255)) : ∃ k, dancestudiolaw56_EditsTakes.f k l0 = some true := by
  have hb : okB l0 := w0.2.2
  have hl : l0.length < 140737488355328 := by have := w0.2.1; omega
  obtain ⟨K, hK⟩ : ∃ K, K = l0.length + 100 := ⟨_, rfl⟩
  have aw : dancestudiolaw56_awake.f K = some true := awake_eq _ (by omega)
  refine ⟨K, ?_⟩
  unfold dancestudiolaw56_EditsTakes.f
  rw [take_eq K l0 hl hb (by omega), rtake_eq K l0 hl hb (by omega), aw]
  simp
end Go.Proofs.Ytekagaimfdbgiaa.Pure

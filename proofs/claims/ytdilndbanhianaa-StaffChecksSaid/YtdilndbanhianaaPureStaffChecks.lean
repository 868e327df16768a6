/- The plain statement of StaffChecks; no condition. -/
import Derived.Test.YtdilndbanhianaaP18
import Derived.Test.YtdilndbanhianaaME
import Derived.Test.YtdilndbanhianaaMB
import Derived.Test.YtdilndbanhianaaOpen
set_option linter.unusedVariables false
set_option linter.unusedSimpArgs false
namespace Go.Proofs.Ytdilndbanhianaa.Pure
open Go.RowKit Go.Proofs.Ytdilndbanhianaa.P Go.Proofs.Ytdilndbanhianaa.Open Go.Proofs.YtdilndbanhianaaW.PrintWords Go.Proofs.YtdilndbanhianaaW.PrintLast Go.Proofs.YtdilndbanhianaaW.PrintMore
theorem StaffChecks (l0 : List S29) (a1 : Int) (w0 : l0.length ≤ maxLen ∧ l0.length * 56 ≤ 140737488351232 ∧ ∀ y ∈ l0, (okI y.f0 ∧ okI y.f1 ∧ okI y.f2 ∧ okI y.f3 ∧ okI y.f4 ∧ okI y.f5 ∧ okI y.f6)) (w1 : okI a1) : ∃ k, dancestudiolaw24_StaffChecks.f k l0 a1 = some true := by
  refine Ev.rounds ?_
  unfold dancestudiolaw24_StaffChecks.f staff_Check.f
  simp only [light24, Option.bind_some, decide_eq_true_eq]
  by_cases h : l0.length ≤ 60 ∨ 256 < l0.length ∧ l0.length ≤ 300
  · simp only [h, ↓reduceIte]
    refine Ev.bind (rchk_eq l0 a1) ?_
    simp only [↓reduceIte]; exact awt24
  · simp only [h, ↓reduceIte]; exact awt24
end Go.Proofs.Ytdilndbanhianaa.Pure

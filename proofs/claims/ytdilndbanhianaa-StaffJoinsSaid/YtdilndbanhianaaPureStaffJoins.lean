/- The plain statement of StaffJoins; no condition. -/
import Derived.Test.YtdilndbanhianaaP26
import Derived.Test.YtdilndbanhianaaME
import Derived.Test.YtdilndbanhianaaStaffJ
import Derived.Test.YtdilndbanhianaaOpen
set_option linter.unusedVariables false
set_option linter.unusedSimpArgs false
namespace Go.Proofs.Ytdilndbanhianaa.Pure
open Go.RowKit Go.Proofs.Ytdilndbanhianaa.P Go.Proofs.Ytdilndbanhianaa.Open Go.Proofs.YtdilndbanhianaaW.PrintWords Go.Proofs.YtdilndbanhianaaW.PrintLast Go.Proofs.YtdilndbanhianaaW.PrintMore
theorem StaffJoins (l0_0 : List S29) (l0_1 : List S29) (a0_2 : Int) (a0_3 : Int) (w0_0 : l0_0.length ≤ maxLen ∧ l0_0.length * 56 ≤ 140737488351232 ∧ ∀ y ∈ l0_0, (okI y.f0 ∧ okI y.f1 ∧ okI y.f2 ∧ okI y.f3 ∧ okI y.f4 ∧ okI y.f5 ∧ okI y.f6)) (w0_1 : l0_1.length ≤ maxLen ∧ l0_1.length * 56 ≤ 140737488351232 ∧ ∀ y ∈ l0_1, (okI y.f0 ∧ okI y.f1 ∧ okI y.f2 ∧ okI y.f3 ∧ okI y.f4 ∧ okI y.f5 ∧ okI y.f6)) (w0_2 : okI a0_2) (w0_3 : okI a0_3) : ∃ k, dancestudiolaw24_StaffJoins.f k l0_0 l0_1 a0_2 a0_3 = some true := by
  refine Ev.rounds ?_
  unfold dancestudiolaw24_StaffJoins.f
  simp only [light24, join_eq, Option.bind_some, decide_eq_true_eq]
  by_cases h : l0_0.length ≤ 60 ∨ 256 < l0_0.length ∧ l0_0.length ≤ 300
  · simp only [h, ↓reduceIte]
    by_cases h2 : l0_1.length ≤ 60 ∨ 256 < l0_1.length ∧ l0_1.length ≤ 300
    · simp only [h2, ↓reduceIte]
      refine Ev.bind (rjoin_eq _ _ _ _) ?_
      have p1 : (joinP l0_0 a0_2 l0_1 a0_3).1.length ≤ 1000 := by
        unfold joinP
        repeat' split
        all_goals first | (simp; done) | (simp; omega)
      refine Ev.bind (same_refl _ (by omega)) ?_
      simp only [↓reduceIte]; exact awt24
    · simp only [h2, ↓reduceIte]; exact awt24
  · simp only [h, ↓reduceIte]; exact awt24
end Go.Proofs.Ytdilndbanhianaa.Pure

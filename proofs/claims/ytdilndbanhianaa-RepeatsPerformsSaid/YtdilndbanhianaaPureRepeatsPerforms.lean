/- The plain statement of RepeatsPerforms; no condition. -/
import Derived.Test.YtdilndbanhianaaP52
import Derived.Test.YtdilndbanhianaaAwakeB
import Derived.Test.YtdilndbanhianaaRepsS
import Derived.Test.YtdilndbanhianaaVOpen
set_option linter.unusedVariables false
set_option linter.unusedSimpArgs false
namespace Go.Proofs.Ytdilndbanhianaa.Pure
open Go.RowKit Go.Proofs.Ytdilndbanhianaa.P Go.Proofs.Ytdilndbanhianaa.Open Go.Proofs.YtdilndbanhianaaW.PrintWords Go.Proofs.YtdilndbanhianaaW.PrintLast Go.Proofs.YtdilndbanhianaaW.PrintMore
theorem RepeatsPerforms (l0_0 : List S29) (a0_1 : Int) (l0_2 : List S61) (a1 : Int) (w0_0 : l0_0.length ≤ maxLen ∧ l0_0.length * 56 ≤ 140737488351232 ∧ ∀ y ∈ l0_0, (okI y.f0 ∧ okI y.f1 ∧ okI y.f2 ∧ okI y.f3 ∧ okI y.f4 ∧ okI y.f5 ∧ okI y.f6)) (w0_1 : okI a0_1) (w0_2 : l0_2.length ≤ maxLen ∧ l0_2.length * 24 ≤ 140737488351232 ∧ ∀ y ∈ l0_2, ((okI y.f0.f0 ∧ okI y.f0.f1) ∧ okI y.f1)) (w1 : okI a1) : ∃ k, dancestudiolaw26_RepeatsPerforms.f k l0_0 a0_1 l0_2 a1 = some true := by
  refine Ev.rounds ?_
  unfold dancestudiolaw26_RepeatsPerforms.f dancestudiolaw26_great.f repeats_Perform.f repeats_Source.f
  simp only [Option.bind_some, decide_eq_true_eq, GT.gt]
  by_cases h : 60 < (l0_0.length : Int)
  · simp only [h, ↓reduceIte]; exact awt26
  · simp only [h, ↓reduceIte]
    refine Ev.bind (rperform_eq l0_0 a0_1 l0_2) ?_
    refine Ev.bind (rsource_eq l0_0 a0_1 l0_2 a1) ?_
    refine Ev.bind (same26_refl _ (rPerformP_small _ _ _)) ?_
    simp only [↓reduceIte]; exact awt26
end Go.Proofs.Ytdilndbanhianaa.Pure

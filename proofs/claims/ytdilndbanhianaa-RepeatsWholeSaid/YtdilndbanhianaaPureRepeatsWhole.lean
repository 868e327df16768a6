/- The plain statement of RepeatsWhole; no condition. -/
import Derived.Test.YtdilndbanhianaaP61
import Derived.Test.YtdilndbanhianaaAwakeB
import Derived.Test.YtdilndbanhianaaRepsW
import Derived.Test.YtdilndbanhianaaVOpen
set_option linter.unusedVariables false
set_option linter.unusedSimpArgs false
namespace Go.Proofs.Ytdilndbanhianaa.Pure
open Go.RowKit Go.Proofs.Ytdilndbanhianaa.P Go.Proofs.Ytdilndbanhianaa.Open Go.Proofs.YtdilndbanhianaaW.PrintWords Go.Proofs.YtdilndbanhianaaW.PrintLast Go.Proofs.YtdilndbanhianaaW.PrintMore
theorem RepeatsWhole (l0 : List S29) (a1 : Int) (w0 : l0.length ≤ maxLen ∧ l0.length * 56 ≤ 140737488351232 ∧ ∀ y ∈ l0, (okI y.f0 ∧ okI y.f1 ∧ okI y.f2 ∧ okI y.f3 ∧ okI y.f4 ∧ okI y.f5 ∧ okI y.f6)) (w1 : okI a1) : ∃ k, dancestudiolaw26_RepeatsWhole.f k l0 a1 = some true := by
  refine Ev.rounds ?_
  unfold dancestudiolaw26_RepeatsWhole.f repeats_Perform.f staff_Check.f dancestudiolaw26_twice.f
  simp only [join_eq, Option.bind_some, GT.gt]
  by_cases h : 60 < (l0.length : Int)
  · simp only [h, ↓reduceIte]; exact awt26
  · simp only [h, ↓reduceIte]
    by_cases c : chkS l0 a1 = 0
    · have v := (chkS_ok l0 a1).mp c
      simp only [perform_none v, c, ↓reduceIte]
      refine Ev.bind (same26_refl l0 (by have := v.len; omega)) ?_
      simp only [perform_twice v, ↓reduceIte]
      by_cases d : (joinP l0 a1 l0 a1).2 = 0
      · simp only [d, ↓reduceIte]
        refine Ev.bind (same26_refl _ (by rw [← perform_twice v]; exact rPerformP_small _ _ _)) ?_
        simp only [↓reduceIte]; exact awt26
      · simp only [d, ↓reduceIte]; exact awt26
    · simp only [perform_bad c, c, ↓reduceIte, List.length_nil, Int.ofNat_zero]
      exact awt26
end Go.Proofs.Ytdilndbanhianaa.Pure

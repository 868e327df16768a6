/- The plain statement of RepeatsFinds; no condition. -/
import Derived.Test.YtdilndbanhianaaP59
import Derived.Test.YtdilndbanhianaaAwakeB
import Derived.Test.YtdilndbanhianaaRepsF
import Derived.Test.YtdilndbanhianaaVOpen
set_option linter.unusedVariables false
set_option linter.unusedSimpArgs false
namespace Go.Proofs.Ytdilndbanhianaa.Pure
open Go.RowKit Go.Proofs.Ytdilndbanhianaa.P Go.Proofs.Ytdilndbanhianaa.Open Go.Proofs.YtdilndbanhianaaW.PrintWords Go.Proofs.YtdilndbanhianaaW.PrintLast Go.Proofs.YtdilndbanhianaaW.PrintMore
theorem RepeatsFinds (l0 : List S29) (a1 : Int) (a2 : Int) (w0 : l0.length ≤ maxLen ∧ l0.length * 56 ≤ 140737488351232 ∧ ∀ y ∈ l0, (okI y.f0 ∧ okI y.f1 ∧ okI y.f2 ∧ okI y.f3 ∧ okI y.f4 ∧ okI y.f5 ∧ okI y.f6)) (w1 : okI a1) (w2 : okI a2) : ∃ k, dancestudiolaw26_RepeatsFinds.f k l0 a1 a2 = some true := by
  refine Ev.rounds ?_
  unfold dancestudiolaw26_RepeatsFinds.f
  simp only [GT.gt]
  have hb := find_b l0 a1 a2
  by_cases h : 60 < (l0.length : Int)
  · simp only [h, ↓reduceIte]; exact awt26
  · simp only [h, ↓reduceIte]
    by_cases c1 : 300 < a1
    · simp only [c1, ↓reduceIte]
      by_cases c2 : a1 ≤ 8192
      · simp only [c2, ↓reduceIte]; exact awt26
      · simp only [c2, ↓reduceIte]
        refine Ev.bind (find_eq l0 a1 a2 (by omega)) ?_
        refine Ev.bind (rfind_eq l0 a1 a2 (by omega)) ?_
        refine Ev.bind (same26_refl _ (hb (by omega)).1) ?_
        simp only [↓reduceIte]
        refine Ev.bind (sameR_refl _ (hb (by omega)).2) ?_
        simp only [↓reduceIte]; exact awt26
    · simp only [c1, ↓reduceIte]
      refine Ev.bind (find_eq l0 a1 a2 (by omega)) ?_
      refine Ev.bind (rfind_eq l0 a1 a2 (by omega)) ?_
      refine Ev.bind (same26_refl _ (hb (by omega)).1) ?_
      simp only [↓reduceIte]
      refine Ev.bind (sameR_refl _ (hb (by omega)).2) ?_
      simp only [↓reduceIte]; exact awt26
end Go.Proofs.Ytdilndbanhianaa.Pure

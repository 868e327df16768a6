/- The plain statement of StaffReads; no condition. -/
import Derived.Test.YtdilndbanhianaaReads
import Derived.Test.YtdilndbanhianaaUME
import Derived.Test.YtdilndbanhianaaUStaffA
import Derived.Test.YtdilndbanhianaaUOpen
set_option linter.unusedVariables false
set_option linter.unusedSimpArgs false
namespace Go.Proofs.Ytdilndbanhianaa.Pure
open Go.RowKit Go.Proofs.Ytdilndbanhianaa.P Go.Proofs.Ytdilndbanhianaa.Open Go.Proofs.YtdilndbanhianaaW.PrintWords Go.Proofs.YtdilndbanhianaaW.PrintLast Go.Proofs.YtdilndbanhianaaW.PrintMore
theorem StaffReads (l0 : List S29) (a1 : Int) (a2_0 : Int) (a2_1 : Int) (w0 : l0.length ≤ maxLen ∧ l0.length * 56 ≤ 140737488351232 ∧ ∀ y ∈ l0, (okI y.f0 ∧ okI y.f1 ∧ okI y.f2 ∧ okI y.f3 ∧ okI y.f4 ∧ okI y.f5 ∧ okI y.f6)) (w1 : okI a1) (w2_0 : okI a2_0) (w2_1 : okI a2_1) : ∃ k, dancestudiolaw24_StaffReads.f k l0 a1 a2_0 a2_1 = some true := by
  refine Ev.rounds ?_
  unfold dancestudiolaw24_StaffReads.f staff_Column.f staff_At.f
  simp only [light24, Option.bind_some, decide_eq_true_eq]
  by_cases h : l0.length ≤ 60 ∨ 256 < l0.length ∧ l0.length ≤ 300
  · simp only [h, ↓reduceIte]
    refine Ev.bind (rcol_eq l0 a1 a2_0) ?_
    refine Ev.bind (rat_eq l0 a1 a2_0 a2_1) ?_
    have p1 : (columnP l0 a1 a2_0).1.length ≤ 1000 := by
      rw [columnP_eq]
      unfold colR
      repeat' split
      all_goals first | (simp; done) | (refine Nat.le_trans (List.length_filter_le _ _) ?_; omega)
    refine Ev.bind (same_refl _ (by omega)) ?_
    simp only [↓reduceIte]; exact awt24
  · simp only [h, ↓reduceIte]; exact awt24
end Go.Proofs.Ytdilndbanhianaa.Pure

/- The plain statement of StaffPuts; no condition. -/
import Derived.Test.YtdilndbanhianaaP22
import Derived.Test.YtdilndbanhianaaME
import Derived.Test.YtdilndbanhianaaStaffQ
import Derived.Test.YtdilndbanhianaaOpen
set_option linter.unusedVariables false
set_option linter.unusedSimpArgs false
namespace Go.Proofs.Ytdilndbanhianaa.Pure
open Go.RowKit Go.Proofs.Ytdilndbanhianaa.P Go.Proofs.Ytdilndbanhianaa.Open Go.Proofs.YtdilndbanhianaaW.PrintWords Go.Proofs.YtdilndbanhianaaW.PrintLast Go.Proofs.YtdilndbanhianaaW.PrintMore
theorem StaffPuts (l0 : List S29) (a1 : Int) (a2_0 : Int) (a2_1 : Int) (a2_2 : Int) (a2_3 : Int) (a2_4 : Int) (a2_5 : Int) (a2_6 : Int) (w0 : l0.length ≤ maxLen ∧ l0.length * 56 ≤ 140737488351232 ∧ ∀ y ∈ l0, (okI y.f0 ∧ okI y.f1 ∧ okI y.f2 ∧ okI y.f3 ∧ okI y.f4 ∧ okI y.f5 ∧ okI y.f6)) (w1 : okI a1) (w2_0 : okI a2_0) (w2_1 : okI a2_1) (w2_2 : okI a2_2) (w2_3 : okI a2_3) (w2_4 : okI a2_4) (w2_5 : okI a2_5) (w2_6 : okI a2_6) : ∃ k, dancestudiolaw24_StaffPuts.f k l0 a1 a2_0 a2_1 a2_2 a2_3 a2_4 a2_5 a2_6 = some true := by
  refine Ev.rounds ?_
  unfold dancestudiolaw24_StaffPuts.f staff_Put.f staff_Take.f
  simp only [light24, Option.bind_some, decide_eq_true_eq]
  by_cases h : l0.length ≤ 60 ∨ 256 < l0.length ∧ l0.length ≤ 300
  · simp only [h, ↓reduceIte]
    refine Ev.bind (rput_eq l0 a1 ⟨a2_0, a2_1, a2_2, a2_3, a2_4, a2_5, a2_6⟩) ?_
    refine Ev.bind (rtake_eq l0 a1 a2_1 a2_2) ?_
    have p1 : (putP l0 a1 ⟨a2_0, a2_1, a2_2, a2_3, a2_4, a2_5, a2_6⟩).1.length ≤ 1000 := by
      unfold putP
      repeat' split
      all_goals first | (simp; done) | (simp; omega)
    have p2 : (takS l0 a1 a2_1 a2_2).1.length ≤ 1000 := by
      unfold takS
      repeat' split
      all_goals first | (simp; done) | (refine Nat.le_trans (List.length_filter_le _ _) ?_; omega)
    refine Ev.bind (same_refl _ (by omega)) ?_
    simp only [↓reduceIte]
    refine Ev.bind (same_refl _ (by omega)) ?_
    simp only [↓reduceIte]; exact awt24
  · simp only [h, ↓reduceIte]; exact awt24
end Go.Proofs.Ytdilndbanhianaa.Pure

/- The plain statement of StaffCuts; no condition. -/
import Derived.Test.YtdilndbanhianaaP30
import Derived.Test.YtdilndbanhianaaME
import Derived.Test.YtdilndbanhianaaStaffC
import Derived.Test.YtdilndbanhianaaOpen
set_option linter.unusedVariables false
set_option linter.unusedSimpArgs false
namespace Go.Proofs.Ytdilndbanhianaa.Pure
open Go.RowKit Go.Proofs.Ytdilndbanhianaa.P Go.Proofs.Ytdilndbanhianaa.Open Go.Proofs.YtdilndbanhianaaW.PrintWords Go.Proofs.YtdilndbanhianaaW.PrintLast Go.Proofs.YtdilndbanhianaaW.PrintMore
theorem StaffCuts (l0 : List S29) (a1 : Int) (a2 : Int) (w0 : l0.length ≤ maxLen ∧ l0.length * 56 ≤ 140737488351232 ∧ ∀ y ∈ l0, (okI y.f0 ∧ okI y.f1 ∧ okI y.f2 ∧ okI y.f3 ∧ okI y.f4 ∧ okI y.f5 ∧ okI y.f6)) (w1 : okI a1) (w2 : okI a2) : ∃ k, dancestudiolaw24_StaffCuts.f k l0 a1 a2 = some true := by
  refine Ev.rounds ?_
  unfold dancestudiolaw24_StaffCuts.f staff_Check.f staff_Cut.f
  simp only [light24, join_eq, Option.bind_some, decide_eq_true_eq]
  by_cases h : l0.length ≤ 60 ∨ 256 < l0.length ∧ l0.length ≤ 300
  · simp only [h, ↓reduceIte]
    by_cases h1 : chkS l0 a1 = 0
    · simp only [h1, ↓reduceIte, GE.ge]
      by_cases h2 : a2 < 1
      · simp only [h2, ↓reduceIte]; exact awt24
      · by_cases h3 : a1 ≤ a2
        · simp only [h2, h3, ↓reduceIte]; exact awt24
        · simp only [h2, h3, ↓reduceIte]
          have v := (chkS_ok _ _).mp h1
          have ew : wrap64 (a1 - a2) = a1 - a2 := wrap_in _ (by have := v.n1; omega) (by have := v.n1; omega)
          rcases cuts_main (t := a2) v (by omega) (by omega) with ⟨e1, e2⟩ | ⟨a, b, e1, e2, va, vb, ej⟩
          · simp only [e1, e2, ↓reduceIte, show ¬ (17 : Int) = 0 by decide, show ((([] : List S29).length : Nat) : Int) = 0 from rfl]
            exact awt24
          · simp only [e1, e2, ew, ej, ↓reduceIte]
            refine Ev.bind (same_refl _ (by omega)) ?_
            simp only [(chkS_ok _ _).mpr va, (chkS_ok _ _).mpr vb, ↓reduceIte]
            exact awt24
    · simp only [h1, ↓reduceIte]; exact awt24
  · simp only [h, ↓reduceIte]; exact awt24
end Go.Proofs.Ytdilndbanhianaa.Pure

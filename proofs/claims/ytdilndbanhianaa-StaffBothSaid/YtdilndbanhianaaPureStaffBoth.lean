/- The plain statement of StaffBoth; no condition. -/
import Derived.Test.YtdilndbanhianaaP31
import Derived.Test.YtdilndbanhianaaME
import Derived.Test.YtdilndbanhianaaStaffC
import Derived.Test.YtdilndbanhianaaOpen
set_option linter.unusedVariables false
set_option linter.unusedSimpArgs false
namespace Go.Proofs.Ytdilndbanhianaa.Pure
open Go.RowKit Go.Proofs.Ytdilndbanhianaa.P Go.Proofs.Ytdilndbanhianaa.Open Go.Proofs.YtdilndbanhianaaW.PrintWords Go.Proofs.YtdilndbanhianaaW.PrintLast Go.Proofs.YtdilndbanhianaaW.PrintMore
theorem StaffBoth (l0_0 : List S29) (l0_1 : List S29) (a0_2 : Int) (a0_3 : Int) (w0_0 : l0_0.length ≤ maxLen ∧ l0_0.length * 56 ≤ 140737488351232 ∧ ∀ y ∈ l0_0, (okI y.f0 ∧ okI y.f1 ∧ okI y.f2 ∧ okI y.f3 ∧ okI y.f4 ∧ okI y.f5 ∧ okI y.f6)) (w0_1 : l0_1.length ≤ maxLen ∧ l0_1.length * 56 ≤ 140737488351232 ∧ ∀ y ∈ l0_1, (okI y.f0 ∧ okI y.f1 ∧ okI y.f2 ∧ okI y.f3 ∧ okI y.f4 ∧ okI y.f5 ∧ okI y.f6)) (w0_2 : okI a0_2) (w0_3 : okI a0_3) : ∃ k, dancestudiolaw24_StaffBoth.f k l0_0 l0_1 a0_2 a0_3 = some true := by
  refine Ev.rounds ?_
  unfold dancestudiolaw24_StaffBoth.f staff_Check.f staff_Cut.f
  simp only [light24, join_eq, Option.bind_some, decide_eq_true_eq]
  by_cases h : l0_0.length ≤ 60 ∨ 256 < l0_0.length ∧ l0_0.length ≤ 300
  · simp only [h, ↓reduceIte]
    by_cases h2 : l0_1.length ≤ 60 ∨ 256 < l0_1.length ∧ l0_1.length ≤ 300
    · simp only [h2, ↓reduceIte]
      by_cases c1 : chkS l0_0 a0_2 = 0
      · by_cases c2 : chkS l0_1 a0_3 = 0
        · by_cases c3 : 8192 < a0_2 + a0_3
          · have e : joinP l0_0 a0_2 l0_1 a0_3 = ([], 1) := by unfold joinP; rw [if_neg (not_not_intro c1), if_neg (not_not_intro c2), if_pos c3]
            simp only [e, ↓reduceIte, show ¬ (1 : Int) = 0 by decide, show ((([] : List S29).length : Nat) : Int) = 0 from rfl]
            exact awt24
          · by_cases c4 : 256 < l0_0.length + l0_1.length
            · have e : joinP l0_0 a0_2 l0_1 a0_3 = ([], 3) := by unfold joinP; rw [if_neg (not_not_intro c1), if_neg (not_not_intro c2), if_neg c3, if_pos c4]
              simp only [e, ↓reduceIte, show ¬ (3 : Int) = 0 by decide, show ((([] : List S29).length : Nat) : Int) = 0 from rfl]
              exact awt24
            · have e : joinP l0_0 a0_2 l0_1 a0_3 = (l0_0 ++ l0_1.map (movS a0_2), 0) := by unfold joinP; rw [if_neg (not_not_intro c1), if_neg (not_not_intro c2), if_neg c3, if_neg c4]
              have va := (chkS_ok _ _).mp c1
              have vb := (chkS_ok _ _).mp c2
              obtain ⟨v, e1, e2⟩ := both_main va vb (by omega) (by omega)
              have ew : wrap64 (a0_2 + a0_3) = a0_2 + a0_3 := wrap_in _ (by have := va.n0; have := vb.n0; omega) (by omega)
              simp only [e, ew, e1, e2, ↓reduceIte]
              refine Ev.bind (same_refl _ (by omega)) ?_
              simp only [↓reduceIte]
              refine Ev.bind (same_refl _ (by omega)) ?_
              simp only [(chkS_ok _ _).mpr v, ↓reduceIte]
              exact awt24
        · have e : joinP l0_0 a0_2 l0_1 a0_3 = ([], chkS l0_1 a0_3) := by unfold joinP; rw [if_neg (not_not_intro c1), if_pos c2]
          simp only [e, c2, ↓reduceIte, show ((([] : List S29).length : Nat) : Int) = 0 from rfl]
          exact awt24
      · have e : joinP l0_0 a0_2 l0_1 a0_3 = ([], chkS l0_0 a0_2) := by unfold joinP; rw [if_pos c1]
        simp only [e, c1, ↓reduceIte, show ((([] : List S29).length : Nat) : Int) = 0 from rfl]
        exact awt24
    · simp only [h2, ↓reduceIte]; exact awt24
  · simp only [h, ↓reduceIte]; exact awt24
end Go.Proofs.Ytdilndbanhianaa.Pure

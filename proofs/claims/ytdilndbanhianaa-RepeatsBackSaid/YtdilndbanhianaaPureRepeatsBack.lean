/- The plain statement of RepeatsBack; no condition. -/
import Derived.Test.YtdilndbanhianaaP60
import Derived.Test.YtdilndbanhianaaAwakeB
import Derived.Test.YtdilndbanhianaaRepsG
import Derived.Test.YtdilndbanhianaaVOpen
set_option linter.unusedVariables false
set_option linter.unusedSimpArgs false
namespace Go.Proofs.Ytdilndbanhianaa.Pure
open Go.RowKit Go.Proofs.Ytdilndbanhianaa.P Go.Proofs.Ytdilndbanhianaa.Open Go.Proofs.YtdilndbanhianaaW.PrintWords Go.Proofs.YtdilndbanhianaaW.PrintLast Go.Proofs.YtdilndbanhianaaW.PrintMore
theorem RepeatsBack (l0 : List S29) (a1 : Int) (a2 : Int) (w0 : l0.length ≤ maxLen ∧ l0.length * 56 ≤ 140737488351232 ∧ ∀ y ∈ l0, (okI y.f0 ∧ okI y.f1 ∧ okI y.f2 ∧ okI y.f3 ∧ okI y.f4 ∧ okI y.f5 ∧ okI y.f6)) (w1 : okI a1) (w2 : okI a2) : ∃ k, dancestudiolaw26_RepeatsBack.f k l0 a1 a2 = some true := by
  refine Ev.rounds ?_
  unfold dancestudiolaw26_RepeatsBack.f repeats_Perform.f staff_Check.f
  simp only [GT.gt, length_eq, Option.bind_some]
  by_cases h : 60 < (l0.length : Int)
  · simp only [h, ↓reduceIte]; exact awt26
  · simp only [h, ↓reduceIte]
    by_cases c1 : 300 < a1
    · simp only [c1, ↓reduceIte]; exact awt26
    · simp only [c1, ↓reduceIte]
      refine Ev.bind (find_eq l0 a1 a2 (by omega)) ?_
      by_cases hz : (findP l0 a1 a2).2.2.2 = 0
      · obtain ⟨v, u1, u2, e1, e2, e3, e4⟩ := find_back hz
        simp only [hz, ↓reduceIte, e1, e2, e3, show ((findP l0 a1 a2).1.length : Int) ≤ (l0.length : Int) by omega]
        refine Ev.bind (same26_refl _ (by have := v.len; omega)) ?_
        simp only [↓reduceIte]; exact awt26
      · by_cases h1 : chkS l0 a1 = 0
        · have n0 := ((chkS_ok l0 a1).mp h1).n0
          have hu : a2 < 1 ∨ a1 < a2 := by
            apply Decidable.byContradiction
            intro hh
            apply hz
            unfold findP
            rw [if_neg (not_not_intro h1), if_neg hh]
          have e : findP l0 a1 a2 = ([], 0, [], 1) := by unfold findP; rw [if_neg (not_not_intro h1), if_pos hu]
          simp only [e, h1, List.length_nil, Int.ofNat_zero, ↓reduceIte, show ¬ (1 : Int) = 0 by omega]
          by_cases c2 : a2 < 1
          · simp only [c2, ↓reduceIte]; exact awt26
          · simp only [c2, ↓reduceIte, show a1 < a2 by omega]; exact awt26
        · have e : findP l0 a1 a2 = ([], 0, [], chkS l0 a1) := by unfold findP; rw [if_pos h1]
          simp only [e, h1, List.length_nil, Int.ofNat_zero, ↓reduceIte]
          exact awt26
end Go.Proofs.Ytdilndbanhianaa.Pure

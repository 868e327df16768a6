/- The plain statement of SymbolTwice: the mirror image of a valid symbol is valid, and its mirror image is the symbol; no condition. -/
import Derived.Test.YtnepoolmbfhppaaP17
import Derived.Test.YtnepoolmbfhppaaLawAid
import Derived.Test.YtnepoolmbfhppaaOpen
set_option linter.unusedVariables false
set_option linter.unusedSimpArgs false
namespace Go.Proofs.Ytnepoolmbfhppaa.Pure
open Go.RowKit Go.Proofs.Ytnepoolmbfhppaa.P Go.Proofs.Ytnepoolmbfhppaa.Open Go.Proofs.YtnepoolmbfhppaaW.PrintWords Go.Proofs.YtnepoolmbfhppaaW.PrintLast Go.Proofs.YtnepoolmbfhppaaW.PrintMore
theorem SymbolTwice (a0_0 : Int) (a0_1 : Int) (a0_2 : Int) (a0_3 : Int) (a0_4 : Int) (a0_5 : Int) (a0_6 : Int) (w0_0 : okI a0_0) (w0_1 : okI a0_1) (w0_2 : okI a0_2) (w0_3 : okI a0_3) (w0_4 : okI a0_4) (w0_5 : okI a0_5) (w0_6 : okI a0_6) : ∃ k, dancestudiolaw23_SymbolTwice.f k a0_0 a0_1 a0_2 a0_3 a0_4 a0_5 a0_6 = some true := by
  refine ⟨10, ?_⟩
  unfold dancestudiolaw23_SymbolTwice.f
  rw [symCheck_eq 8, Option.bind_some]
  by_cases h : chkP a0_0 a0_1 a0_2 a0_3 a0_4 a0_5 a0_6 = 0
  · obtain ⟨c', d', m', e1, e2, e3⟩ := mir_ok h
    rw [if_pos h, symMirror_eq 8, e1, Option.bind_some]
    simp only []
    rw [symMirror_eq 8, e3, Option.bind_some, symCheck_eq 8, e2]
    simp [awake_eq]
  · rw [if_neg h, awake_eq]; rfl
end Go.Proofs.Ytnepoolmbfhppaa.Pure

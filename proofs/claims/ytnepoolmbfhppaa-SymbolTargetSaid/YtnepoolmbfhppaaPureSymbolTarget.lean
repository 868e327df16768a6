/- The plain statement of SymbolTarget: the target is the specified one; no condition. -/
import Derived.Test.YtnepoolmbfhppaaP23
import Derived.Test.YtnepoolmbfhppaaLawAid
import Derived.Test.YtnepoolmbfhppaaOpen
import Derived.Test.YtnepoolmbfhppaaP22
set_option linter.unusedVariables false
set_option linter.unusedSimpArgs false
namespace Go.Proofs.Ytnepoolmbfhppaa.Pure
open Go.RowKit Go.Proofs.Ytnepoolmbfhppaa.P Go.Proofs.Ytnepoolmbfhppaa.Open Go.Proofs.YtnepoolmbfhppaaW.PrintWords Go.Proofs.YtnepoolmbfhppaaW.PrintLast Go.Proofs.YtnepoolmbfhppaaW.PrintMore
theorem SymbolTarget (a0_0 : Int) (a0_1 : Int) (a0_2 : Int) (a0_3 : Int) (a0_4 : Int) (a0_5 : Int) (a0_6 : Int) (w0_0 : okI a0_0) (w0_1 : okI a0_1) (w0_2 : okI a0_2) (w0_3 : okI a0_3) (w0_4 : okI a0_4) (w0_5 : okI a0_5) (w0_6 : okI a0_6) : ∃ k, dancestudiolaw23_SymbolTarget.f k a0_0 a0_1 a0_2 a0_3 a0_4 a0_5 a0_6 = some true := by
  refine ⟨10, ?_⟩
  have e : dancestudioref23_Target.f 10 a0_0 a0_1 a0_2 a0_3 a0_4 a0_5 a0_6 = some (tarP a0_0 a0_1 a0_2 a0_3 a0_4 a0_5 a0_6) := by
    unfold dancestudioref23_Target.f tarP
    rw [refCheck_eq 7, Option.bind_some]
    by_cases h : chkP a0_0 a0_1 a0_2 a0_3 a0_4 a0_5 a0_6 = 0
    · rw [if_pos h, if_pos h]
      split <;> rfl
    · rw [if_neg h, if_neg h]
  unfold dancestudiolaw23_SymbolTarget.f
  rw [symTarget_eq 8, e]
  simp [awake_eq]
end Go.Proofs.Ytnepoolmbfhppaa.Pure

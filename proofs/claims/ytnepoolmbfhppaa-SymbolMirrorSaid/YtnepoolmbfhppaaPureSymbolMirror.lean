/- The plain statement of SymbolMirror: the mirror image is the specified one; no condition. -/
import Derived.Test.YtnepoolmbfhppaaP16
import Derived.Test.YtnepoolmbfhppaaLawAid
import Derived.Test.YtnepoolmbfhppaaOpen
set_option linter.unusedVariables false
set_option linter.unusedSimpArgs false
namespace Go.Proofs.Ytnepoolmbfhppaa.Pure
open Go.RowKit Go.Proofs.Ytnepoolmbfhppaa.P Go.Proofs.Ytnepoolmbfhppaa.Open Go.Proofs.YtnepoolmbfhppaaW.PrintWords Go.Proofs.YtnepoolmbfhppaaW.PrintLast Go.Proofs.YtnepoolmbfhppaaW.PrintMore
theorem SymbolMirror (a0_0 : Int) (a0_1 : Int) (a0_2 : Int) (a0_3 : Int) (a0_4 : Int) (a0_5 : Int) (a0_6 : Int) (w0_0 : okI a0_0) (w0_1 : okI a0_1) (w0_2 : okI a0_2) (w0_3 : okI a0_3) (w0_4 : okI a0_4) (w0_5 : okI a0_5) (w0_6 : okI a0_6) : ∃ k, dancestudiolaw23_SymbolMirror.f k a0_0 a0_1 a0_2 a0_3 a0_4 a0_5 a0_6 = some true := by
  refine ⟨10, ?_⟩
  unfold dancestudiolaw23_SymbolMirror.f
  rw [symMirror_eq 8]
  simp [dancestudioref23_Mirror.f, awake_eq]
end Go.Proofs.Ytnepoolmbfhppaa.Pure

/- The plain statement of EditsChecks: Check and Put return the specified errors and bytes; no condition. -/
import Derived.Test.YtekagaimfdbgiaaP23
import Derived.Test.YtekagaimfdbgiaaAwakeEq
import Derived.Test.YtekagaimfdbgiaaChkP
import Derived.Test.YtekagaimfdbgiaaOpen
set_option linter.unusedVariables false
set_option linter.unusedSimpArgs false
namespace Go.Proofs.Ytekagaimfdbgiaa.Pure
open Go.RowKit Go.Proofs.Ytekagaimfdbgiaa.P Go.Proofs.Ytekagaimfdbgiaa.Open Go.Proofs.YtekagaimfdbgiaaW.PrintWords Go.Proofs.YtekagaimfdbgiaaW.PrintLast Go.Proofs.YtekagaimfdbgiaaW.PrintMore
theorem EditsChecks (a0_0 : Int) (a0_1 : Int) (a0_2 : Int) (a0_3 : Int) (a0_4 : Int) (a0_5 : Bool) (a0_6 : Int) (a0_7 : Int) (a0_8 : Int) (a0_9 : Int) (a0_10 : Int) (a0_11 : Int) (a0_12 : Int) (w0_0 : okI a0_0) (w0_1 : okI a0_1) (w0_2 : okI a0_2) (w0_3 : okI a0_3) (w0_4 : okI a0_4) (w0_6 : okI a0_6) (w0_7 : okI a0_7) (w0_8 : okI a0_8) (w0_9 : okI a0_9) (w0_10 : okI a0_10) (w0_11 : okI a0_11) (w0_12 : okI a0_12) : ∃ k, dancestudiolaw56_EditsChecks.f k a0_0 a0_1 a0_2 a0_3 a0_4 a0_5 a0_6 a0_7 a0_8 a0_9 a0_10 a0_11 a0_12 = some true := by
  have ok0 : okE a0_0 a0_1 a0_2 a0_3 a0_4 a0_6 a0_7 a0_8 a0_9 a0_10 a0_11 a0_12 := ⟨w0_0, w0_1, w0_2, w0_3, w0_4, w0_6, w0_7, w0_8, w0_9, w0_10, w0_11, w0_12⟩
  refine ⟨60, ?_⟩
  unfold dancestudiolaw56_EditsChecks.f
  rw [put_edit_eq 60 (by decide) a0_5 ok0, rput_edit_eq 60 (by decide) a0_5 ok0, check_eq 56, rcheck_eq 55, awake_eq 60 (Nat.le_refl _)]
  simp [dancestudioref07_Bytes.f]
end Go.Proofs.Ytekagaimfdbgiaa.Pure

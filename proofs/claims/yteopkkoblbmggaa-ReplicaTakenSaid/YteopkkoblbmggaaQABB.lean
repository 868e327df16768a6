/- Texts of this claim in one: PureReplicaTaken; no condition. -/
import Derived.Test.YteopkkoblbmggaaQAAP
import Derived.Test.YteopkkoblbmggaaQAAH
import Derived.Test.YteopkkoblbmggaaQAAL
import Derived.Test.YteopkkoblbmggaaQAAO
import Derived.Test.YteopkkoblbmggaaQAAW
import Derived.Test.YteopkkoblbmggaaQAAI
import Derived.Test.YteopkkoblbmggaaQAAN
import Derived.Test.YteopkkoblbmggaaQAAV
import Derived.Test.YteopkkoblbmggaaQAAX
import Derived.Test.YteopkkoblbmggaaQABA
section
set_option linter.unusedVariables false
set_option linter.unusedSimpArgs false
namespace Go.Proofs.Yteopkkoblbmggaa.Pure
open Go.RowKit Go.Proofs.Yteopkkoblbmggaa.P Go.Proofs.Yteopkkoblbmggaa.Open Go.Proofs.YteopkkoblbmggaaW.PrintWords Go.Proofs.YteopkkoblbmggaaW.PrintLast Go.Proofs.YteopkkoblbmggaaW.PrintMore
theorem ReplicaTaken (a0_0 : Int) (l0_1 : List S30) (a1 : Int) (a2 : Int) (w0_0 : okI a0_0) (w0_1 : l0_1.length ≤ maxLen ∧ l0_1.length * 104 ≤ 140737488351232 ∧ ∀ y ∈ l0_1, zT30 y) (w1 : okI a1) (w2 : okI a2) : ∃ k, Ya.f k a0_0 l0_1 a1 a2 = some true := by
  refine ⟨40000, ?_⟩
  have zA : ∀ e ∈ l0_1, okE30 e := fun e he => zT_ok (w0_1.2.2 e he)
  have aw : ((Y9.f 40000).bind fun t => some t) = some true := by rw [Y2p 40000 (by decide)]; rfl
  unfold Ya.f
  rw [Y2H, Option.bind_some]
  by_cases g1 : 40 < l0_1.length
  · rw [if_pos (by simpa using g1)]; exact aw
  rw [if_neg (by simpa using g1)]
  unfold Yt.f
  rw [if_pos zA]
  by_cases vA : rchkP a0_0 l0_1 = 0
  rotate_left
  · rw [if_neg vA, Option.bind_some, if_neg vA]; exact aw
  rw [if_pos vA]
  by_cases vs : stfE a1 a2 = 0
  rotate_left
  · rw [if_neg vs, Option.bind_some, if_neg vs]; exact aw
  rw [if_pos vs, Option.bind_some, if_pos rfl]
  have hlen := Y5t l0_1 a1 a2
  unfold Y1w.f
  rw [Option.bind_some, Y4f vA vs, if_pos rfl]
  have := Y6Q 7000 (Nat.le_refl _) vA (by omega) zA (a2 := a1) (a3 := a2) (zN_ok w1) _ _ rfl rfl (by omega) (by omega) l0_1.length 0 40000 (by omega) (by omega) (by omega)
  simpa [Fsg, sgF] using this
end Go.Proofs.Yteopkkoblbmggaa.Pure
end

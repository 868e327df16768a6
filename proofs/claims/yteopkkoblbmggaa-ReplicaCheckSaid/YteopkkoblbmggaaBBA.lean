/- Texts of this claim in one: PureReplicaCheck; no condition. -/
import Derived.Test.YteopkkoblbmggaaBAS
import Derived.Test.YteopkkoblbmggaaBAH
import Derived.Test.YteopkkoblbmggaaBAF
import Derived.Test.YteopkkoblbmggaaBAW
import Derived.Test.YteopkkoblbmggaaBAX
import Derived.Test.YteopkkoblbmggaaBAY
import Derived.Test.YteopkkoblbmggaaBAZ
import Derived.Test.YteopkkoblbmggaaBAJ
import Derived.Test.YteopkkoblbmggaaBAI
import Derived.Test.YteopkkoblbmggaaBAN
import Derived.Test.YteopkkoblbmggaaBAM
section
set_option linter.unusedVariables false
set_option linter.unusedSimpArgs false
namespace Go.Proofs.Yteopkkoblbmggaa.Pure
open Go.RowKit Go.Proofs.Yteopkkoblbmggaa.P Go.Proofs.Yteopkkoblbmggaa.Open Go.Proofs.YteopkkoblbmggaaW.PrintWords Go.Proofs.YteopkkoblbmggaaW.PrintLast Go.Proofs.YteopkkoblbmggaaW.PrintMore
set_option maxRecDepth 100000 in
theorem known_right : YG.f = some (1, [⟨⟨1, 1⟩, 0, ⟨1, 1⟩, false, ⟨2, 0, 0, 24, 0, 0, 0⟩⟩, ⟨⟨2, 2⟩, 0, ⟨2, 2⟩, false, ⟨1, 0, 12, 24, 1, 0, 0⟩⟩, ⟨⟨3, 1⟩, 0, ⟨2, 2⟩, false, ⟨1, 1, 0, 24, 1, 0, 0⟩⟩]) := by rfl
set_option maxRecDepth 100000 in
theorem known_check : Yu.f 1 [⟨⟨1, 1⟩, 0, ⟨1, 1⟩, false, ⟨2, 0, 0, 24, 0, 0, 0⟩⟩, ⟨⟨2, 2⟩, 0, ⟨2, 2⟩, false, ⟨1, 0, 12, 24, 1, 0, 0⟩⟩, ⟨⟨3, 1⟩, 0, ⟨2, 2⟩, false, ⟨1, 1, 0, 24, 1, 0, 0⟩⟩] = some 0 := by decide +kernel
theorem ReplicaCheck (a0_0 : Int) (l0_1 : List S30) (a1_0 : Int) (a1_1 : Int) (a1_2 : Int) (a1_3 : Int) (a1_4 : Int) (a1_5 : Bool) (a1_6 : Int) (a1_7 : Int) (a1_8 : Int) (a1_9 : Int) (a1_10 : Int) (a1_11 : Int) (a1_12 : Int) (w0_0 : okI a0_0) (w0_1 : l0_1.length ≤ maxLen ∧ l0_1.length * 104 ≤ 140737488351232 ∧ ∀ y ∈ l0_1, zT30 y) (w1_0 : okI a1_0) (w1_1 : okI a1_1) (w1_2 : okI a1_2) (w1_3 : okI a1_3) (w1_4 : okI a1_4) (w1_6 : okI a1_6) (w1_7 : okI a1_7) (w1_8 : okI a1_8) (w1_9 : okI a1_9) (w1_10 : okI a1_10) (w1_11 : okI a1_11) (w1_12 : okI a1_12) : ∃ k, Yk.f k a0_0 l0_1 a1_0 a1_1 a1_2 a1_3 a1_4 a1_5 a1_6 a1_7 a1_8 a1_9 a1_10 a1_11 a1_12 = some true := by
  refine ⟨6000, ?_⟩
  unfold Yk.f
  obtain ⟨b, hb, hl⟩ := Y5v a0_0 l0_1
  rw [hb, Option.bind_some]
  cases b
  · have hl := hl rfl
    have hv : ∀ e ∈ l0_1, okE30 e := fun e he => zT_ok (w0_1.2.2 e he)
    have hc : Yu.f a0_0 l0_1 = some (rchkP a0_0 l0_1) := by unfold Yu.f; rw [if_pos hv]
    rw [if_neg (by decide), Y4m 6000 a0_0 l0_1 (by omega) (by omega), Option.bind_some, hc, Option.bind_some, if_pos rfl]
    by_cases h : rchkP a0_0 l0_1 = 0
    · rw [if_pos h, Y1R 6000 (by decide)]; rfl
    · rw [if_neg h]
      have e1 : YD.f a0_0 l0_1 a1_0 a1_1 a1_2 a1_3 a1_4 a1_5 a1_6 a1_7 a1_8 a1_9 a1_10 a1_11 a1_12 = some (0, [], rchkP a0_0 l0_1) := by
        unfold YD.f
        rw [if_pos ⟨hv, zN_ok w1_2, zN_ok w1_3, zN_ok w1_4⟩]
        unfold addP
        rw [if_neg h]
      have e2 : Yc.f 6000 a0_0 l0_1 a0_0 l0_1 = some (0, [], rchkP a0_0 l0_1) := by
        unfold Yc.f Y16.f
        rw [hc, Option.bind_some, if_neg h, Option.bind_some, if_neg h]
      have e3 : ∀ k, Yc.f k 1 [⟨⟨1, 1⟩, 0, ⟨1, 1⟩, false, ⟨2, 0, 0, 24, 0, 0, 0⟩⟩, ⟨⟨2, 2⟩, 0, ⟨2, 2⟩, false, ⟨1, 0, 12, 24, 1, 0, 0⟩⟩, ⟨⟨3, 1⟩, 0, ⟨2, 2⟩, false, ⟨1, 1, 0, 24, 1, 0, 0⟩⟩] a0_0 l0_1 = some (0, [], rchkP a0_0 l0_1) := fun k => by
        unfold Yc.f Y16.f
        rw [known_check, Option.bind_some, if_pos rfl, hc, Option.bind_some, Option.bind_some, if_neg h]
      have e4 : ∀ k, Yz.f k 1 [⟨⟨1, 1⟩, 0, ⟨1, 1⟩, false, ⟨2, 0, 0, 24, 0, 0, 0⟩⟩, ⟨⟨2, 2⟩, 0, ⟨2, 2⟩, false, ⟨1, 0, 12, 24, 1, 0, 0⟩⟩, ⟨⟨3, 1⟩, 0, ⟨2, 2⟩, false, ⟨1, 1, 0, 24, 1, 0, 0⟩⟩] a0_0 l0_1 = some ([], rchkP a0_0 l0_1) := fun k => by
        unfold Yz.f Y16.f
        rw [known_check, Option.bind_some, if_pos rfl, hc, Option.bind_some, Option.bind_some, if_neg h]
      have e5 : Y15.f a0_0 l0_1 (-1) 0 = some ([], [], rchkP a0_0 l0_1) := by
        unfold Y15.f
        rw [if_pos hv, if_neg h]
      have e6 : Yy.f a0_0 l0_1 0 a1_3 a1_4 = some (0, 0, 0, 0, 0, 0, 0, false, rchkP a0_0 l0_1) := by
        unfold Yy.f
        rw [if_pos ⟨hv, by decide, zN_ok w1_3, zN_ok w1_4⟩, if_neg h]
      rw [e1, Option.bind_some, e2, Option.bind_some, known_right, Option.bind_some, e3, Option.bind_some, Option.bind_some, e4, Option.bind_some, e5, Option.bind_some, e6, Option.bind_some]
      simp only [List.length_nil, Int.natCast_zero, if_true, beq_self_eq_true, Bool.not_true, Bool.or_self, Bool.false_eq_true, if_false]
      rw [Y1R 6000 (by decide)]
      rfl
  · rw [if_pos rfl, Y1R 6000 (by decide)]; rfl
end Go.Proofs.Yteopkkoblbmggaa.Pure
end

/- The plain statement of EditsApart: different edits have different bytes; no condition. -/
import Derived.Test.YtekagaimfdbgiaaP34
import Derived.Test.YtekagaimfdbgiaaAwakeEq
import Derived.Test.YtekagaimfdbgiaaEditsP
import Derived.Test.YtekagaimfdbgiaaBytesP
import Derived.Test.YtekagaimfdbgiaaOpen
set_option linter.unusedVariables false
set_option linter.unusedSimpArgs false
namespace Go.Proofs.Ytekagaimfdbgiaa.Pure
open Go.RowKit Go.Proofs.Ytekagaimfdbgiaa.P Go.Proofs.Ytekagaimfdbgiaa.Open Go.Proofs.YtekagaimfdbgiaaW.PrintWords Go.Proofs.YtekagaimfdbgiaaW.PrintLast Go.Proofs.YtekagaimfdbgiaaW.PrintMore
theorem EditsApart (a0_0 : Int) (a0_1 : Int) (a0_2 : Int) (a0_3 : Int) (a0_4 : Int) (a0_5 : Bool) (a0_6 : Int) (a0_7 : Int) (a0_8 : Int) (a0_9 : Int) (a0_10 : Int) (a0_11 : Int) (a0_12 : Int) (a1_0 : Int) (a1_1 : Int) (a1_2 : Int) (a1_3 : Int) (a1_4 : Int) (a1_5 : Bool) (a1_6 : Int) (a1_7 : Int) (a1_8 : Int) (a1_9 : Int) (a1_10 : Int) (a1_11 : Int) (a1_12 : Int) (w0_0 : okI a0_0) (w0_1 : okI a0_1) (w0_2 : okI a0_2) (w0_3 : okI a0_3) (w0_4 : okI a0_4) (w0_6 : okI a0_6) (w0_7 : okI a0_7) (w0_8 : okI a0_8) (w0_9 : okI a0_9) (w0_10 : okI a0_10) (w0_11 : okI a0_11) (w0_12 : okI a0_12) (w1_0 : okI a1_0) (w1_1 : okI a1_1) (w1_2 : okI a1_2) (w1_3 : okI a1_3) (w1_4 : okI a1_4) (w1_6 : okI a1_6) (w1_7 : okI a1_7) (w1_8 : okI a1_8) (w1_9 : okI a1_9) (w1_10 : okI a1_10) (w1_11 : okI a1_11) (w1_12 : okI a1_12) : ∃ k, dancestudiolaw56_EditsApart.f k a0_0 a0_1 a0_2 a0_3 a0_4 a0_5 a0_6 a0_7 a0_8 a0_9 a0_10 a0_11 a0_12 a1_0 a1_1 a1_2 a1_3 a1_4 a1_5 a1_6 a1_7 a1_8 a1_9 a1_10 a1_11 a1_12 = some true := by
  have ok0 : okE a0_0 a0_1 a0_2 a0_3 a0_4 a0_6 a0_7 a0_8 a0_9 a0_10 a0_11 a0_12 := ⟨w0_0, w0_1, w0_2, w0_3, w0_4, w0_6, w0_7, w0_8, w0_9, w0_10, w0_11, w0_12⟩
  have ok1 : okE a1_0 a1_1 a1_2 a1_3 a1_4 a1_6 a1_7 a1_8 a1_9 a1_10 a1_11 a1_12 := ⟨w1_0, w1_1, w1_2, w1_3, w1_4, w1_6, w1_7, w1_8, w1_9, w1_10, w1_11, w1_12⟩
  refine ⟨60, ?_⟩
  unfold dancestudiolaw56_EditsApart.f
  rw [put_edit_eq 60 (by decide) a0_5 ok0, Option.bind_some, put_edit_eq 60 (by decide) a1_5 ok1, Option.bind_some, awake_eq 60 (Nat.le_refl _)]
  by_cases c0 : chkE a0_0 a0_1 a0_2 a0_3 a0_4 a0_5 a0_6 a0_7 a0_8 a0_9 a0_10 a0_11 a0_12 = 0
  · by_cases c1 : chkE a1_0 a1_1 a1_2 a1_3 a1_4 a1_5 a1_6 a1_7 a1_8 a1_9 a1_10 a1_11 a1_12 = 0
    · rw [if_pos c0, if_pos c1]
      have t0 := take_put a0_5 ok0 c0 []
      have t1 := take_put a1_5 ok1 c1 []
      have b0 := putB_ok a0_5 ok0
      have b1 := putB_ok a1_5 ok1
      rw [List.append_nil] at t0 t1
      simp only [if_true, Option.bind_some, dancestudioref07_Bytes.f]
      rw [if_pos]
      have e : ((strOfNums (putB a0_0 a0_1 a0_2 a0_3 a0_4 a0_5 a0_6 a0_7 a0_8 a0_9 a0_10 a0_11 a0_12)).toList == (strOfNums (putB a1_0 a1_1 a1_2 a1_3 a1_4 a1_5 a1_6 a1_7 a1_8 a1_9 a1_10 a1_11 a1_12)).toList) = decide (putB a0_0 a0_1 a0_2 a0_3 a0_4 a0_5 a0_6 a0_7 a0_8 a0_9 a0_10 a0_11 a0_12 = putB a1_0 a1_1 a1_2 a1_3 a1_4 a1_5 a1_6 a1_7 a1_8 a1_9 a1_10 a1_11 a1_12) := bytes_eq b0 b1
      rw [e, beq_iff_eq, Bool.eq_iff_iff, decide_eq_true_eq]
      constructor
      · intro h
        rw [h, t1] at t0
        simp only [Prod.mk.injEq, List.length_nil, if_true] at t0
        simp [t0]
      · intro h
        simp only [Bool.and_eq_true, beq_iff_eq] at h
        obtain ⟨⟨rfl, rfl⟩, rfl, ⟨rfl, rfl⟩, rfl, rfl, rfl, rfl, rfl, rfl, rfl, rfl⟩ := h
        rfl
    · rw [if_pos c0, if_neg c1]
      simp [c1]
  · rw [if_neg c0]
    simp [c0]
end Go.Proofs.Ytekagaimfdbgiaa.Pure

/- The plain statement of EditsPrefixes: cut bytes end too early, bytes with more behind them are no edit; no condition. -/
import Derived.Test.YtekagaimfdbgiaaP31
import Derived.Test.YtekagaimfdbgiaaAwakeEq
import Derived.Test.YtekagaimfdbgiaaEditsP
import Derived.Test.YtekagaimfdbgiaaOpen
set_option linter.unusedVariables false
set_option linter.unusedSimpArgs false
namespace Go.Proofs.Ytekagaimfdbgiaa.Pure
open Go.RowKit Go.Proofs.Ytekagaimfdbgiaa.P Go.Proofs.Ytekagaimfdbgiaa.Open Go.Proofs.YtekagaimfdbgiaaW.PrintWords Go.Proofs.YtekagaimfdbgiaaW.PrintLast Go.Proofs.YtekagaimfdbgiaaW.PrintMore
theorem EditsPrefixes (a0_0 : Int) (a0_1 : Int) (a0_2 : Int) (a0_3 : Int) (a0_4 : Int) (a0_5 : Bool) (a0_6 : Int) (a0_7 : Int) (a0_8 : Int) (a0_9 : Int) (a0_10 : Int) (a0_11 : Int) (a0_12 : Int) (a1 : Int) (l2 : List Int) (w0_0 : okI a0_0) (w0_1 : okI a0_1) (w0_2 : okI a0_2) (w0_3 : okI a0_3) (w0_4 : okI a0_4) (w0_6 : okI a0_6) (w0_7 : okI a0_7) (w0_8 : okI a0_8) (w0_9 : okI a0_9) (w0_10 : okI a0_10) (w0_11 : okI a0_11) (w0_12 : okI a0_12) (w1 : okI a1) (w2 : l2.length ≤ maxLen ∧ l2.length * 1 ≤ 140737488351232 ∧ ∀ y ∈ l2, (0 ≤ y ∧ y ≤ 255)) : ∃ k, dancestudiolaw56_EditsPrefixes.f k a0_0 a0_1 a0_2 a0_3 a0_4 a0_5 a0_6 a0_7 a0_8 a0_9 a0_10 a0_11 a0_12 a1 l2 = some true := by
  have ok0 : okE a0_0 a0_1 a0_2 a0_3 a0_4 a0_6 a0_7 a0_8 a0_9 a0_10 a0_11 a0_12 := ⟨w0_0, w0_1, w0_2, w0_3, w0_4, w0_6, w0_7, w0_8, w0_9, w0_10, w0_11, w0_12⟩
  have hb : okB l2 := w2.2.2
  have hn : l2.length ≤ 140737488351232 := by have := w2.2.1; omega
  have hp : (putB a0_0 a0_1 a0_2 a0_3 a0_4 a0_5 a0_6 a0_7 a0_8 a0_9 a0_10 a0_11 a0_12).length ≤ 130 := putB_len _ _ _ _ _ _ _ _ _ _ _ _ _
  have hpb : okB (putB a0_0 a0_1 a0_2 a0_3 a0_4 a0_5 a0_6 a0_7 a0_8 a0_9 a0_10 a0_11 a0_12) := putB_ok a0_5 ok0
  obtain ⟨K, hK⟩ : ∃ K, K = l2.length + 200 := ⟨_, rfl⟩
  refine ⟨K, ?_⟩
  have aw : dancestudiolaw56_awake.f K = some true := awake_eq _ (by omega)
  unfold dancestudiolaw56_EditsPrefixes.f
  rw [put_edit_eq K (by omega) a0_5 ok0, Option.bind_some]
  by_cases c0 : chkE a0_0 a0_1 a0_2 a0_3 a0_4 a0_5 a0_6 a0_7 a0_8 a0_9 a0_10 a0_11 a0_12 = 0
  · rw [if_pos c0]
    have t1 : edits_Take.f K (putB a0_0 a0_1 a0_2 a0_3 a0_4 a0_5 a0_6 a0_7 a0_8 a0_9 a0_10 a0_11 a0_12 ++ l2) = some (takeP (putB a0_0 a0_1 a0_2 a0_3 a0_4 a0_5 a0_6 a0_7 a0_8 a0_9 a0_10 a0_11 a0_12 ++ l2)) :=
      take_eq _ _ (by rw [List.length_append]; omega) (fun x hx => (List.mem_append.mp hx).elim (hpb x) (hb x)) (by rw [List.length_append]; omega)
    rw [take_put a0_5 ok0 c0 l2] at t1
    have g1 : (putB a0_0 a0_1 a0_2 a0_3 a0_4 a0_5 a0_6 a0_7 a0_8 a0_9 a0_10 a0_11 a0_12).length < 140737488355328 := by omega
    have g2 : (putB a0_0 a0_1 a0_2 a0_3 a0_4 a0_5 a0_6 a0_7 a0_8 a0_9 a0_10 a0_11 a0_12).length + l2.length < 140737488355328 := by omega
    by_cases h1 : a1 ≥ 0
    · by_cases h2 : a1 < ((putB a0_0 a0_1 a0_2 a0_3 a0_4 a0_5 a0_6 a0_7 a0_8 a0_9 a0_10 a0_11 a0_12).length : Int)
      · have t2 : edits_Take.f K ((putB a0_0 a0_1 a0_2 a0_3 a0_4 a0_5 a0_6 a0_7 a0_8 a0_9 a0_10 a0_11 a0_12).take a1.toNat) = some (takeP ((putB a0_0 a0_1 a0_2 a0_3 a0_4 a0_5 a0_6 a0_7 a0_8 a0_9 a0_10 a0_11 a0_12).take a1.toNat)) :=
          take_eq _ _ (by rw [List.length_take]; omega) (fun x hx => hpb x (List.mem_of_mem_take hx)) (by rw [List.length_take]; omega)
        rw [take_cut a0_5 ok0 a1.toNat (by omega)] at t2
        have h3 : (0 : Int) ≤ a1 := h1
        have h4 : a1 ≤ ((putB a0_0 a0_1 a0_2 a0_3 a0_4 a0_5 a0_6 a0_7 a0_8 a0_9 a0_10 a0_11 a0_12).length : Int) := by omega
        by_cases h5 : l2.length = 0
        · simp [h1, h2, h3, h4, h5, t2, aw, errE]
        · have h6 : ¬ (l2 = []) := fun h => h5 (by rw [h]; rfl)
          simp [h1, h2, h3, h4, h5, h6, t1, t2, g1, g2, aw, errE]
      · by_cases h5 : l2.length = 0
        · simp [h1, h2, h5, aw, errE]
        · have h6 : ¬ (l2 = []) := fun h => h5 (by rw [h]; rfl)
          simp [h1, h2, h5, h6, t1, g1, g2, aw, errE]
    · by_cases h5 : l2.length = 0
      · simp [h1, h5, aw, errE]
      · have h6 : ¬ (l2 = []) := fun h => h5 (by rw [h]; rfl)
        simp [h1, h5, h6, t1, g1, g2, aw, errE]
  · rw [if_neg c0]
    simp [c0, aw]
end Go.Proofs.Ytekagaimfdbgiaa.Pure

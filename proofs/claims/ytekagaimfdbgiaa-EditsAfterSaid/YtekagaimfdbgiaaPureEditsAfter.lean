/- The plain statement of EditsAfter: the next stamp of a device is valid and after all stamps of the list; no condition. -/
import Derived.Test.YtekagaimfdbgiaaP33
import Derived.Test.YtekagaimfdbgiaaAwakeEq
import Derived.Test.YtekagaimfdbgiaaEditsP
import Derived.Test.YtekagaimfdbgiaaNextP
import Derived.Test.YtekagaimfdbgiaaOpen
set_option linter.unusedVariables false
set_option linter.unusedSimpArgs false
namespace Go.Proofs.Ytekagaimfdbgiaa.Pure
open Go.RowKit Go.Proofs.Ytekagaimfdbgiaa.P Go.Proofs.Ytekagaimfdbgiaa.Open Go.Proofs.YtekagaimfdbgiaaW.PrintWords Go.Proofs.YtekagaimfdbgiaaW.PrintLast Go.Proofs.YtekagaimfdbgiaaW.PrintMore
theorem after_l0 (a0 a1 M : Int) (l : List S23) (hl : l.length < 140737488355328) (h1 : ¬ (a0 < 1 ∨ 64 < a0)) (hv : allV l = true) (hM : mxc 0 l = M) (hM1 : M < 1000000 ∧ 0 ≤ M) (hle : ∀ s ∈ l, s.f0 ≤ M) :
    ∀ (m i k : Nat) (x : Bool), l.length - i = m → i ≤ l.length → (x = true ∨ ∃ s ∈ l.drop i, s.f0 = M) → m + l.length + 90 ≤ k → dancestudiolaw56_EditsAfter.l0 k a0 a1 l x (i : Int) (M + 1) a0 = some true
  | 0, i, k, x, hm, hi, hx, hk => by
    obtain ⟨k, rfl⟩ : ∃ q, k = q + 1 := ⟨k - 1, by omega⟩
    have hx' : x = true := by
      rcases hx with hx | ⟨s, hs, _⟩
      · exact hx
      · rw [List.drop_eq_nil_of_le (by omega)] at hs; simp at hs
    simp only [dancestudiolaw56_EditsAfter.l0]
    rw [if_neg (by omega), next_eq k a1 l hl (by omega), Option.bind_some, if_pos hx', awake_eq k (by omega)]
    unfold nextP
    by_cases h2 : a1 < 1 ∨ 64 < a1
    · rw [if_pos h2]; simp
    · have e : endN a1 0 l = (M + 1, a1, 0) := by rw [endN, if_pos hv, if_neg (by omega), hM]
      rw [if_neg h2, e]
      simp
  | m + 1, i, k, x, hm, hi, hx, hk => by
    obtain ⟨k, rfl⟩ : ∃ q, k = q + 1 := ⟨k - 1, by omega⟩
    have hi' : i < l.length := by omega
    have hs := hle _ (List.getElem_mem hi')
    simp only [dancestudiolaw56_EditsAfter.l0]
    have e : lessP l[i].f0 l[i].f1 (M + 1) a0 = true := by simp only [lessP, decide_eq_true_eq]; omega
    rw [if_pos (by omega), if_pos (by omega), rd23_at hi', eless_eq, Option.bind_some, if_pos e, if_neg (by omega), wrap_in' ((i : Int) + 1) (by omega) (by omega), wrap_in' (M + 1 - 1) (by omega) (by omega)]
    rw [show ((i : Int) + 1) = ((i + 1 : Nat) : Int) by omega, show M + 1 - 1 = M by omega]
    split
    · exact after_l0 a0 a1 M l hl h1 hv hM hM1 hle m (i + 1) k true (by omega) (by omega) (Or.inl rfl) (by omega)
    · rename_i hx0
      refine after_l0 a0 a1 M l hl h1 hv hM hM1 hle m (i + 1) k _ (by omega) (by omega) ?_ (by omega)
      rcases hx with hx | ⟨s, hs, h⟩
      · exact absurd hx hx0
      · rw [List.drop_eq_getElem_cons hi'] at hs
        rcases List.mem_cons.mp hs with rfl | hs
        · exact Or.inl (by simp [h])
        · exact Or.inr ⟨s, hs, h⟩
theorem EditsAfter (a0 : Int) (a1 : Int) (l2 : List S23) (w0 : okI a0) (w1 : okI a1) (w2 : l2.length ≤ maxLen ∧ l2.length * 16 ≤ 140737488351232 ∧ ∀ y ∈ l2, ((okI y.f0) ∧ (okI y.f1))) : ∃ k, dancestudiolaw56_EditsAfter.f k a0 a1 l2 = some true := by
  have hl : l2.length < 140737488355328 := by have := w2.2.1; omega
  obtain ⟨K, hK⟩ : ∃ K, K = 2 * l2.length + 100 := ⟨_, rfl⟩
  have aw : dancestudiolaw56_awake.f K = some true := awake_eq _ (by omega)
  refine ⟨K, ?_⟩
  unfold dancestudiolaw56_EditsAfter.f
  rw [next_eq K a0 l2 hl (by omega), Option.bind_some]
  unfold nextP
  by_cases h1 : a0 < 1 ∨ 64 < a0
  · rw [if_pos h1]; simp [aw]
  · rw [if_neg h1]
    unfold endN
    by_cases h2 : allV l2 = true
    · rw [if_pos h2]
      by_cases h3 : 1000000 ≤ mxc 0 l2
      · rw [if_pos h3]; simp [aw]
      · rw [if_neg h3]
        have hg := mxc_ge l2 0
        have key := after_l0 a0 a1 (mxc 0 l2) l2 hl h1 h2 rfl (by omega) hg.2 l2.length 0 K ((l2.length : Int) == 0) (by omega) (by omega) (by
          by_cases h0 : l2.length = 0
          · exact Or.inl (by simp [h0])
          · right
            rw [List.drop_zero]
            rcases mxc_mem l2 0 with h | h
            · exfalso
              obtain ⟨x, xs, rfl⟩ : ∃ x xs, l2 = x :: xs := by cases l2 with | nil => exact absurd rfl h0 | cons x xs => exact ⟨x, xs, rfl⟩
              have := hg.2 x List.mem_cons_self
              have hv := (val_iff _ _).mp (List.all_eq_true.mp h2 x List.mem_cons_self)
              omega
            · exact h) (by omega)
        simp only [if_true]
        rw [if_neg (by omega), if_neg (by omega), if_neg (by omega), if_neg (by omega)]
        split
        · rename_i h0
          have e0 : l2 = [] := List.length_eq_zero_iff.mp (by omega)
          rw [if_pos (by rw [e0]; rfl)]
          exact key
        · exact key
    · rw [if_neg h2]; simp [aw]
end Go.Proofs.Ytekagaimfdbgiaa.Pure

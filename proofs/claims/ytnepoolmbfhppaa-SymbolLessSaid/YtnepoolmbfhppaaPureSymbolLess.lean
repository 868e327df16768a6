/- The plain statement of SymbolLess: Less orders by Begin and Column; no condition. -/
import Derived.Test.YtnepoolmbfhppaaLessL
import Derived.Test.YtnepoolmbfhppaaOpen
set_option linter.unusedVariables false
set_option linter.unusedSimpArgs false
namespace Go.Proofs.Ytnepoolmbfhppaa.Pure
open Go.RowKit Go.Proofs.Ytnepoolmbfhppaa.P Go.Proofs.Ytnepoolmbfhppaa.Open Go.Proofs.YtnepoolmbfhppaaW.PrintWords Go.Proofs.YtnepoolmbfhppaaW.PrintLast Go.Proofs.YtnepoolmbfhppaaW.PrintMore
def lessB (b c b' c' : Int) : Bool := decide (b < b' ∨ b = b' ∧ c < c')
theorem symLess_eq (j : Nat) (a0 a1 a2 a3 a4 a5 a6 b0 b1 b2 b3 b4 b5 b6 : Int) : symbol_Less.f (j + 3) a0 a1 a2 a3 a4 a5 a6 b0 b1 b2 b3 b4 b5 b6 = some (lessB a2 a1 b2 b1) := by
  unfold symbol_Less.f cmp_Compare_int.f cmp_isNaN_int.f cmp_Or_int.f lessB
  simp only [bne_self_eq_false, Option.bind_some, Bool.false_eq_true, if_false]
  by_cases h1 : a2 < b2
  · by_cases g : a1 < b1
    · simp [h1, g, cmp_Or_int.l0, rd]
    · by_cases g2 : a1 > b1 <;> simp [h1, g, g2, cmp_Or_int.l0, rd]
  · by_cases h2 : a2 > b2
    · have e : ¬ (a2 = b2) := by omega
      by_cases g : a1 < b1
      · simp [h1, h2, g, e, cmp_Or_int.l0, rd]
      · by_cases g2 : a1 > b1 <;> simp [h1, h2, g, g2, e, cmp_Or_int.l0, rd]
    · have e : a2 = b2 := by omega
      subst e
      by_cases h3 : a1 < b1
      · simp [h3, cmp_Or_int.l0, rd, wrap64]
      · by_cases h4 : a1 > b1
        · simp [h3, h4, cmp_Or_int.l0, rd, wrap64]
        · simp [h3, h4, cmp_Or_int.l0, rd, wrap64]
theorem refLess_eq (a0 a1 a2 a3 a4 a5 a6 b0 b1 b2 b3 b4 b5 b6 : Int) : dancestudioref23_Less.f a0 a1 a2 a3 a4 a5 a6 b0 b1 b2 b3 b4 b5 b6 = some (lessB a2 a1 b2 b1) := by
  unfold dancestudioref23_Less.f lessB
  by_cases h1 : a2 < b2
  · simp [h1]
  · by_cases h2 : a2 = b2 <;> simp [h1, h2]
theorem SymbolLess (a0_0 : Int) (a0_1 : Int) (a0_2 : Int) (a0_3 : Int) (a0_4 : Int) (a0_5 : Int) (a0_6 : Int) (a1_0 : Int) (a1_1 : Int) (a1_2 : Int) (a1_3 : Int) (a1_4 : Int) (a1_5 : Int) (a1_6 : Int) (a2_0 : Int) (a2_1 : Int) (a2_2 : Int) (a2_3 : Int) (a2_4 : Int) (a2_5 : Int) (a2_6 : Int) (w0_0 : okI a0_0) (w0_1 : okI a0_1) (w0_2 : okI a0_2) (w0_3 : okI a0_3) (w0_4 : okI a0_4) (w0_5 : okI a0_5) (w0_6 : okI a0_6) (w1_0 : okI a1_0) (w1_1 : okI a1_1) (w1_2 : okI a1_2) (w1_3 : okI a1_3) (w1_4 : okI a1_4) (w1_5 : okI a1_5) (w1_6 : okI a1_6) (w2_0 : okI a2_0) (w2_1 : okI a2_1) (w2_2 : okI a2_2) (w2_3 : okI a2_3) (w2_4 : okI a2_4) (w2_5 : okI a2_5) (w2_6 : okI a2_6) : ∃ k, dancestudiolaw23_SymbolLess.f k a0_0 a0_1 a0_2 a0_3 a0_4 a0_5 a0_6 a1_0 a1_1 a1_2 a1_3 a1_4 a1_5 a1_6 a2_0 a2_1 a2_2 a2_3 a2_4 a2_5 a2_6 = some true := by
  refine ⟨10, ?_⟩
  unfold dancestudiolaw23_SymbolLess.f
  simp only [symLess_eq 7, refLess_eq, awake_eq, Option.bind_some]
  obtain ⟨ab, h1⟩ : ∃ x, x = lessB a0_2 a0_1 a1_2 a1_1 := ⟨_, rfl⟩
  obtain ⟨ba, h2⟩ : ∃ x, x = lessB a1_2 a1_1 a0_2 a0_1 := ⟨_, rfl⟩
  obtain ⟨bc, h3⟩ : ∃ x, x = lessB a1_2 a1_1 a2_2 a2_1 := ⟨_, rfl⟩
  obtain ⟨ac, h4⟩ : ∃ x, x = lessB a0_2 a0_1 a2_2 a2_1 := ⟨_, rfl⟩
  have h5 : lessB a0_2 a0_1 a0_2 a0_1 = false := by simp [lessB]
  have k1 : (ab && ba) = false := by
    rw [h1, h2]; simp only [lessB, Bool.and_eq_false_iff, decide_eq_false_iff_not]; omega
  have k2 : (ab && bc && !ac) = false := by
    rw [h1, h3, h4]; simp only [lessB, Bool.and_eq_false_iff, Bool.not_eq_false', decide_eq_false_iff_not, decide_eq_true_eq]; omega
  rw [← h1, ← h2, ← h3, ← h4, h5]
  clear h1 h2 h3 h4
  cases ab <;> cases ba <;> cases bc <;> cases ac <;> first | rfl | (exact absurd k1 (by decide)) | (exact absurd k2 (by decide))
end Go.Proofs.Ytnepoolmbfhppaa.Pure

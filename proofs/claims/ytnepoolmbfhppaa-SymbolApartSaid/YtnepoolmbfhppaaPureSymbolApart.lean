/- The plain statement of SymbolApart: two valid symbols have one code exactly if what they say is equal; no condition. -/
import Derived.Test.YtnepoolmbfhppaaP24
import Derived.Test.YtnepoolmbfhppaaLawAid
import Derived.Test.YtnepoolmbfhppaaOpen
set_option linter.unusedVariables false
set_option linter.unusedSimpArgs false
namespace Go.Proofs.Ytnepoolmbfhppaa.Pure
open Go.RowKit Go.Proofs.Ytnepoolmbfhppaa.P Go.Proofs.Ytnepoolmbfhppaa.Open Go.Proofs.YtnepoolmbfhppaaW.PrintWords Go.Proofs.YtnepoolmbfhppaaW.PrintLast Go.Proofs.YtnepoolmbfhppaaW.PrintMore
theorem SymbolApart (a0_0 : Int) (a0_1 : Int) (a0_2 : Int) (a0_3 : Int) (a0_4 : Int) (a0_5 : Int) (a0_6 : Int) (a1_0 : Int) (a1_1 : Int) (a1_2 : Int) (a1_3 : Int) (a1_4 : Int) (a1_5 : Int) (a1_6 : Int) (w0_0 : okI a0_0) (w0_1 : okI a0_1) (w0_2 : okI a0_2) (w0_3 : okI a0_3) (w0_4 : okI a0_4) (w0_5 : okI a0_5) (w0_6 : okI a0_6) (w1_0 : okI a1_0) (w1_1 : okI a1_1) (w1_2 : okI a1_2) (w1_3 : okI a1_3) (w1_4 : okI a1_4) (w1_5 : okI a1_5) (w1_6 : okI a1_6) : ∃ k, dancestudiolaw23_SymbolApart.f k a0_0 a0_1 a0_2 a0_3 a0_4 a0_5 a0_6 a1_0 a1_1 a1_2 a1_3 a1_4 a1_5 a1_6 = some true := by
  refine ⟨10, ?_⟩
  unfold dancestudiolaw23_SymbolApart.f
  rw [symCode_eq 8, symCode_eq 8]
  unfold codeP
  by_cases h : chkP a0_0 a0_1 a0_2 a0_3 a0_4 a0_5 a0_6 = 0
  · by_cases h' : chkP a1_0 a1_1 a1_2 a1_3 a1_4 a1_5 a1_6 = 0
    · obtain ⟨x1, _⟩ := say_code ((chk_iff _ _ _ _ _ _ _).1 h)
      obtain ⟨x2, _⟩ := say_code ((chk_iff _ _ _ _ _ _ _).1 h')
      have key : codeN a0_0 a0_4 a0_5 a0_6 = codeN a1_0 a1_4 a1_5 a1_6 → a0_0 = a1_0 ∧ a0_4 = a1_4 ∧ a0_5 = a1_5 ∧ a0_6 = a1_6 := by
        intro e
        rw [e, x2] at x1
        simp only [Prod.mk.injEq, and_true, true_and] at x1
        omega
      simp only [h, h', if_true, Option.bind_some, awake_eq]
      generalize hx : codeN a0_0 a0_4 a0_5 a0_6 = x at *
      generalize hy : codeN a1_0 a1_4 a1_5 a1_6 = y at *
      have tt : (none : Option Bool) = none := rfl
      have ne : ¬ x = y → (x == y) = false := fun e => by simpa using e
      by_cases g1 : a0_0 = a1_0
      · rw [if_pos g1]
        by_cases g2 : a0_4 = a1_4
        · rw [if_pos g2]
          by_cases g3 : a0_5 = a1_5
          · rw [if_pos g3]
            by_cases g4 : a0_6 = a1_6
            · have : x = y := by rw [← hx, ← hy, g1, g2, g3, g4]
              rw [this, g4]; simp
            · rw [ne (fun e => g4 (key e).2.2.2), show (a0_6 == a1_6) = false by simpa using g4]; rfl
          · rw [if_neg g3, ne (fun e => g3 (key e).2.2.1)]; rfl
        · rw [if_neg g2, ne (fun e => g2 (key e).2.1)]; rfl
      · rw [if_neg g1, ne (fun e => g1 (key e).1)]; rfl
    · simp [h, h', awake_eq]
  · by_cases h' : chkP a1_0 a1_1 a1_2 a1_3 a1_4 a1_5 a1_6 = 0 <;> simp [h, h', awake_eq]
end Go.Proofs.Ytnepoolmbfhppaa.Pure

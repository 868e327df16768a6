/- The plain statement of SymbolCode: symbols and codes are inverse; no condition. -/
import Derived.Test.YtnepoolmbfhppaaP18
import Derived.Test.YtnepoolmbfhppaaLawAid
import Derived.Test.YtnepoolmbfhppaaOpen
set_option linter.unusedVariables false
set_option linter.unusedSimpArgs false
namespace Go.Proofs.Ytnepoolmbfhppaa.Pure
open Go.RowKit Go.Proofs.Ytnepoolmbfhppaa.P Go.Proofs.Ytnepoolmbfhppaa.Open Go.Proofs.YtnepoolmbfhppaaW.PrintWords Go.Proofs.YtnepoolmbfhppaaW.PrintLast Go.Proofs.YtnepoolmbfhppaaW.PrintMore
theorem SymbolCode (a0_0 : Int) (a0_1 : Int) (a0_2 : Int) (a0_3 : Int) (a0_4 : Int) (a0_5 : Int) (a0_6 : Int) (a1 : Int) (a2 : Int) (a3 : Int) (a4 : Int) (w0_0 : okI a0_0) (w0_1 : okI a0_1) (w0_2 : okI a0_2) (w0_3 : okI a0_3) (w0_4 : okI a0_4) (w0_5 : okI a0_5) (w0_6 : okI a0_6) (w1 : okI a1) (w2 : okI a2) (w3 : okI a3) (w4 : okI a4) : ∃ k, dancestudiolaw23_SymbolCode.f k a0_0 a0_1 a0_2 a0_3 a0_4 a0_5 a0_6 a1 a2 a3 a4 = some true := by
  refine ⟨10, ?_⟩
  have hd : ∀ n c b l, okI n → symbol_Decode.f n c b l = some (decP n c b l) := by
    intro n c b l h
    unfold symbol_Decode.f
    rw [if_pos (by unfold sayOk; exact decide_eq_true (show -9223372036854775808 ≤ n ∧ n ≤ 9223372036854775807 from h))]
  have second : ∀ t : Option Bool, True → True := fun _ _ => trivial
  have tail : (decP a1 a2 a3 a4).2.2.2.2.2.2.2 = 0 → (decP a1 a2 a3 a4).2.1 = a2 ∧ (decP a1 a2 a3 a4).2.2.1 = a3 ∧ (decP a1 a2 a3 a4).2.2.2.1 = a4 ∧
      codeP (decP a1 a2 a3 a4).1 (decP a1 a2 a3 a4).2.1 (decP a1 a2 a3 a4).2.2.1 (decP a1 a2 a3 a4).2.2.2.1 (decP a1 a2 a3 a4).2.2.2.2.1 (decP a1 a2 a3 a4).2.2.2.2.2.1 (decP a1 a2 a3 a4).2.2.2.2.2.2.1 = (a1, 0) := by
    intro h
    have hc := code_say a1
    unfold decP at *
    obtain ⟨⟨s1, s2, s3, s4, s5, s6, s7, s8⟩, hs⟩ : ∃ p, p = sayP a1 := ⟨_, rfl⟩
    rw [← hs] at h hc ⊢
    simp only at h hc ⊢
    by_cases h8 : s8 = true
    · rw [if_pos h8] at h ⊢
      by_cases h0 : chkP s1 a2 a3 a4 s5 s6 s7 = 0
      · rw [if_pos h0] at h ⊢
        simp [codeP, h0, hc h8]
      · rw [if_neg h0] at h
        exact absurd h h0
    · rw [if_neg h8] at h
      simp at h
  have tail0 : ¬ (decP a1 a2 a3 a4).2.2.2.2.2.2.2 = 0 → decP a1 a2 a3 a4 = (0, 0, 0, 0, 0, 0, 0, (decP a1 a2 a3 a4).2.2.2.2.2.2.2) := by
    intro h
    unfold decP at *
    obtain ⟨⟨s1, s2, s3, s4, s5, s6, s7, s8⟩, hs⟩ : ∃ p, p = sayP a1 := ⟨_, rfl⟩
    rw [← hs] at h ⊢
    simp only at h ⊢
    by_cases h8 : s8 = true
    · rw [if_pos h8] at h ⊢
      by_cases h0 : chkP s1 a2 a3 a4 s5 s6 s7 = 0
      · rw [if_pos h0] at h; exact absurd rfl h
      · rw [if_neg h0]
    · rw [if_neg h8]
  clear second
  have hdec := hd a1 a2 a3 a4 w1
  obtain ⟨⟨p1, p2, p3, p4, p5, p6, p7, p8⟩, hp⟩ : ∃ p, p = decP a1 a2 a3 a4 := ⟨_, rfl⟩
  rw [← hp] at tail tail0 hdec
  simp only at tail tail0
  unfold dancestudiolaw23_SymbolCode.f
  rw [symCheck_eq 8, Option.bind_some]
  by_cases h : chkP a0_0 a0_1 a0_2 a0_3 a0_4 a0_5 a0_6 = 0
  · obtain ⟨x1, x2, x3⟩ := say_code ((chk_iff _ _ _ _ _ _ _).1 h)
    have e2 : decP (codeN a0_0 a0_4 a0_5 a0_6) a0_1 a0_2 a0_3 = (a0_0, a0_1, a0_2, a0_3, a0_4, a0_5, a0_6, 0) := by
      unfold decP; rw [x1]; simp [h]
    have e1 : symbol_Code.f 10 a0_0 a0_1 a0_2 a0_3 a0_4 a0_5 a0_6 = some (codeN a0_0 a0_4 a0_5 a0_6, 0) := by
      rw [symCode_eq 8]; unfold codeP; rw [if_pos h]
    rw [if_pos h, e1, Option.bind_some]
    simp only []
    rw [hd _ _ _ _ ⟨by omega, by omega⟩, e2]
    simp only [Option.bind_some, if_true, beq_self_eq_true, Bool.not_true, Bool.or_false, Bool.false_eq_true, if_false]
    rw [if_neg (by omega), if_neg (by omega), hdec]
    simp only [Option.bind_some]
    by_cases h8 : p8 = 0
    · obtain ⟨y1, y2, y3, y4⟩ := tail h8
      subst y1 y2 y3
      rw [if_pos h8, symCode_eq 8, y4]
      simp [awake_eq]
    · have y := tail0 h8
      simp only [Prod.mk.injEq, and_true] at y
      obtain ⟨rfl, rfl, rfl, rfl, rfl, rfl, rfl⟩ := y
      simp [h8, awake_eq]
  · rw [if_neg h, hdec]
    simp only [Option.bind_some]
    by_cases h8 : p8 = 0
    · obtain ⟨y1, y2, y3, y4⟩ := tail h8
      subst y1 y2 y3
      rw [if_pos h8, symCode_eq 8, y4]
      simp [awake_eq]
    · have y := tail0 h8
      simp only [Prod.mk.injEq, and_true] at y
      obtain ⟨rfl, rfl, rfl, rfl, rfl, rfl, rfl⟩ := y
      simp [h8, awake_eq]
end Go.Proofs.Ytnepoolmbfhppaa.Pure

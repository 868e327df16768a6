/- What edits.Take takes is an edit, and its bytes are what was taken; no condition. -/
import Derived.Test.YtekagaimfdbgiaaEditsP
namespace Go.Proofs.Ytekagaimfdbgiaa.P
open Go.RowKit Go.Proofs.YtekagaimfdbgiaaW.PrintWords Go.Proofs.YtekagaimfdbgiaaW.PrintLast Go.Proofs.YtekagaimfdbgiaaW.PrintMore
theorem six_of : ∀ l : List Int, l.length = 6 → ∃ a b c d e f, l = [a, b, c, d, e, f]
  | [a, b, c, d, e, f], _ => ⟨a, b, c, d, e, f, rfl⟩
theorem seven_of : ∀ l : List Int, l.length = 7 → ∃ a b c d e f g, l = [a, b, c, d, e, f, g]
  | [a, b, c, d, e, f, g], _ => ⟨a, b, c, d, e, f, g, rfl⟩
theorem take_inv (b : List Int) (hb : okB b) : (∃ e, e ≠ 0 ∧ takeP b = errE e) ∨ ∃ a0 a1 a2 a3 a4 a5 a6 a7 a8 a9 a10 a11 a12, takeP b = (a0, a1, a2, a3, a4, a5, a6, a7, a8, a9, a10, a11, a12, 0) ∧
    chkE a0 a1 a2 a3 a4 a5 a6 a7 a8 a9 a10 a11 a12 = 0 ∧ okE a0 a1 a2 a3 a4 a6 a7 a8 a9 a10 a11 a12 ∧ putB a0 a1 a2 a3 a4 a5 a6 a7 a8 a9 a10 a11 a12 = b := by
  have z0 : okZ 0 := by unfold okZ; omega
  unfold takeP
  obtain ⟨l, rest, e, h⟩ : ∃ l rest e, dks 6 b = (l, rest, e) := ⟨_, _, _, rfl⟩
  rw [h]
  simp only
  by_cases h1 : e = 0
  · subst h1
    obtain ⟨i1, i2, i3⟩ := dks_inv 6 b l rest hb h
    obtain ⟨x0, x1, x2, x3, x4, x5, rfl⟩ := six_of l i3
    have k0 := i2 x0 (by simp)
    have k1 := i2 x1 (by simp)
    have k2 := i2 x2 (by simp)
    have k3 := i2 x3 (by simp)
    have k4 := i2 x4 (by simp)
    rw [if_pos rfl]
    simp only [List.getD_cons_zero, List.getD_cons_succ]
    by_cases h2 : x5 = 1
    · rw [if_pos h2]
      unfold endP
      by_cases h3 : rest.length = 0
      · rw [if_pos h3]
        by_cases h4 : chkE x0 x1 x2 x3 x4 true 0 0 0 0 0 0 0 = 0
        · rw [if_pos h4]
          refine Or.inr ⟨x0, x1, x2, x3, x4, true, 0, 0, 0, 0, 0, 0, 0, rfl, h4, ⟨k0, k1, k2, k3, k4, z0, z0, z0, z0, z0, z0, z0⟩, ?_⟩
          rw [i1, List.length_eq_zero_iff.mp h3, h2]
          rfl
        · rw [if_neg h4]; exact Or.inl ⟨_, h4, rfl⟩
      · rw [if_neg h3]; exact Or.inl ⟨2, by decide, rfl⟩
    · rw [if_neg h2]
      by_cases h3 : x5 = 0
      · rw [if_pos h3]
        obtain ⟨m, r2, e2, h'⟩ : ∃ m r2 e2, dks 7 rest = (m, r2, e2) := ⟨_, _, _, rfl⟩
        rw [h']
        simp only
        have hrb : okB rest := fun x hx => hb x (by rw [i1]; exact List.mem_append_right _ hx)
        by_cases h4 : e2 = 0
        · subst h4
          obtain ⟨j1, j2, j3⟩ := dks_inv 7 rest m r2 hrb h'
          obtain ⟨y0, y1, y2, y3, y4, y5, y6, rfl⟩ := seven_of m j3
          rw [if_pos rfl]
          simp only [List.getD_cons_zero, List.getD_cons_succ]
          unfold endP
          by_cases h5 : r2.length = 0
          · rw [if_pos h5]
            by_cases h6 : chkE x0 x1 x2 x3 x4 false y0 y1 y2 y3 y4 y5 y6 = 0
            · rw [if_pos h6]
              refine Or.inr ⟨x0, x1, x2, x3, x4, false, y0, y1, y2, y3, y4, y5, y6, rfl, h6, ⟨k0, k1, k2, k3, k4, j2 y0 (by simp), j2 y1 (by simp), j2 y2 (by simp), j2 y3 (by simp), j2 y4 (by simp), j2 y5 (by simp), j2 y6 (by simp)⟩, ?_⟩
              rw [i1, j1, List.length_eq_zero_iff.mp h5, h3, List.append_nil]
              rfl
            · rw [if_neg h6]; exact Or.inl ⟨_, h6, rfl⟩
          · rw [if_neg h5]; exact Or.inl ⟨2, by decide, rfl⟩
        · rw [if_neg h4]; exact Or.inl ⟨_, h4, rfl⟩
      · rw [if_neg h3]; exact Or.inl ⟨2, by decide, rfl⟩
  · rw [if_neg h1]; exact Or.inl ⟨_, h1, rfl⟩
end Go.Proofs.Ytekagaimfdbgiaa.P

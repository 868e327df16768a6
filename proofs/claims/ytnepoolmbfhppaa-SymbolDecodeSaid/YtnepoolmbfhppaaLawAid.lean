/- The plain laws of symbols: mirror images, codes, what is decoded; no condition. -/
import Derived.Test.YtnepoolmbfhppaaEqs
set_option linter.unusedVariables false
set_option linter.unusedSimpArgs false
namespace Go.Proofs.Ytnepoolmbfhppaa.P
theorem ofP_ok (a d l b : Int) (ha : 0 ≤ a ∧ a < 6) : (ofP a d l b).2.2.2 = 0 ↔ 0 ≤ d ∧ d ≤ 8 ∧ -1 ≤ l ∧ l ≤ 1 ∧ 0 ≤ b ∧ b ≤ 6 ∧ ¬ (d = 0 ∧ (l = 0 ∨ (l = -1 ∧ (a = 2 ∨ a = 5)))) := by
  unfold ofP
  rw [if_pos ha]
  by_cases h1 : 0 ≤ d ∧ d ≤ 8 ∧ -1 ≤ l ∧ l ≤ 1
  · rw [if_pos h1]
    by_cases h2 : b < 0 ∨ 6 < b
    · rw [if_pos h2]; simp; omega
    · rw [if_neg h2]
      by_cases h3 : d = 0
      · rw [if_pos h3]
        by_cases h4 : l = 0 ∨ (l = -1 ∧ (a = 2 ∨ a = 5))
        · rw [if_pos h4]; simp [h3]; omega
        · rw [if_neg h4]; simp only [true_iff]; omega
      · rw [if_neg h3]; simp only [true_iff]; omega
  · rw [if_neg h1]; simp; omega
/-- What Check takes. -/
def okS (k c b l d v m : Int) : Prop := 0 ≤ b ∧ b ≤ 8191 ∧ 1 ≤ l ∧ l ≤ 8192 - b ∧
  ((k = 1 ∧ (c = 0 ∨ c = 1) ∧ 0 ≤ d ∧ d ≤ 8 ∧ -1 ≤ v ∧ v ≤ 1 ∧ m = 0) ∨ (k = 2 ∧ (c = 0 ∨ c = 1) ∧ d = 0 ∧ v = 0 ∧ m = 0) ∨
   (k = 3 ∧ 2 ≤ c ∧ c < 8 ∧ 0 ≤ d ∧ d ≤ 8 ∧ -1 ≤ v ∧ v ≤ 1 ∧ 0 ≤ m ∧ m ≤ 6 ∧ ¬ (d = 0 ∧ (v = 0 ∨ (v = -1 ∧ (c = 4 ∨ c = 7))))) ∨ (k = 4 ∧ c = 8 ∧ d = 0 ∧ v = 0 ∧ -16 ≤ m ∧ m ≤ 16 ∧ m ≠ 0))
theorem chk_iff (k c b l d v m : Int) : chkP k c b l d v m = 0 ↔ okS k c b l d v m := by
  unfold chkP okS
  by_cases h1 : k < 1 ∨ 4 < k
  · rw [if_pos h1]; simp; omega
  · rw [if_neg h1]
    have hk : k = 1 ∨ k = 2 ∨ k = 3 ∨ k = 4 := by omega
    by_cases h2 : colP k c
    · rw [if_neg (not_not_intro h2)]
      by_cases h3 : b < 0 ∨ 8191 < b ∨ l < 1 ∨ 8192 - b < l
      · rw [if_pos h3]; simp; omega
      · rw [if_neg h3]
        rcases hk with rfl | rfl | rfl | rfl
        · simp [colP] at h2
          simp only [sayC, if_true]
          by_cases h4 : 0 ≤ d ∧ d ≤ 8 ∧ -1 ≤ v ∧ v ≤ 1
          · rw [if_pos h4]; split <;> simp <;> omega
          · rw [if_neg h4]; simp; omega
        · simp [colP] at h2
          simp [sayC]
          constructor <;> (intro h; omega)
        · simp [colP] at h2
          simp only [sayC, if_true]
          rw [if_neg (by decide), if_neg (by decide), ofP_ok _ _ _ _ (by omega)]
          constructor
          · rintro ⟨a1, a2, a3, a4, a5, a6, a7⟩
            exact ⟨by omega, by omega, by omega, by omega, .inr (.inr (.inl ⟨by first | rfl | trivial, h2.1, h2.2, a1, a2, a3, a4, a5, a6, by omega⟩))⟩
          · rintro ⟨_, _, _, _, h⟩
            rcases h with ⟨e, _⟩ | ⟨e, _⟩ | ⟨_, _, _, a1, a2, a3, a4, a5, a6, a7⟩ | ⟨e, _⟩
            · omega
            · omega
            · exact ⟨a1, a2, a3, a4, a5, a6, by omega⟩
            · omega
        · simp [colP] at h2
          simp [sayC]
          by_cases h4 : d = 0 ∧ v = 0
          · rw [if_pos h4]; split <;> simp <;> omega
          · rw [if_neg h4]; simp; omega
    · rw [if_pos h2]
      have : ¬ (okS k c b l d v m) := by
        rcases hk with rfl | rfl | rfl | rfl <;> simp [colP] at h2 <;> unfold okS <;> omega
      unfold okS at this
      simp only [show ((16 : Int) = 0) = False from by simp, false_iff]
      exact this
theorem mir_ok {k c b l d v m : Int} (h : chkP k c b l d v m = 0) :
    ∃ c' d' m', mirP k c b l d v m = (k, c', b, l, d', v, m', 0) ∧ chkP k c' b l d' v m' = 0 ∧ mirP k c' b l d' v m' = (k, c, b, l, d, v, m, 0) := by
  have ho := (chk_iff _ _ _ _ _ _ _).1 h
  have key : ∀ c' d' m', (if k = 4 then (k, c, b, l, d, v, -m, (0 : Int)) else (k, mcol k c, b, l, mdir k d, v, m, 0)) = (k, c', b, l, d', v, m', 0) → okS k c' b l d' v m' → (if k = 4 then (k, c', b, l, d', v, -m', (0 : Int)) else (k, mcol k c', b, l, mdir k d', v, m', 0)) = (k, c, b, l, d, v, m, 0) →
      ∃ c' d' m', mirP k c b l d v m = (k, c', b, l, d', v, m', 0) ∧ chkP k c' b l d' v m' = 0 ∧ mirP k c' b l d' v m' = (k, c, b, l, d, v, m, 0) := by
    intro c' d' m' e1 e2 e3
    have h' := (chk_iff _ _ _ _ _ _ _).2 e2
    refine ⟨c', d', m', ?_, h', ?_⟩
    · unfold mirP; rw [if_pos h]; exact e1
    · unfold mirP; rw [if_pos h']; exact e3
  unfold okS at ho
  obtain ⟨b1, b2, l1, l2, hk⟩ := ho
  rcases hk with ⟨rfl, hc, h1, h2, h3, h4, h5⟩ | ⟨rfl, hc, h1, h2, h3⟩ | ⟨rfl, hc, hc', h1, h2, h3, h4, h5, h6, h7⟩ | ⟨rfl, hc, h1, h2, h3, h4, h5⟩
  · refine key (mcol 1 c) (mdir 1 d) m (by simp) ?_ ?_
    · unfold okS mcol mdir; simp; omega
    · simp [mcol, mdir]; omega
  · refine key (mcol 2 c) (mdir 2 d) m (by simp) ?_ ?_
    · unfold okS mcol mdir; simp; omega
    · simp [mcol, mdir]; omega
  · refine key (mcol 3 c) (mdir 3 d) m (by simp) ?_ ?_
    · unfold okS mcol mdir; simp; omega
    · simp [mcol, mdir]; omega
  · refine key c d (-m) (by simp) ?_ ?_
    · unfold okS; simp; omega
    · simp
theorem say_gen (n k d v m : Int) (hk : k = 1 ∨ k = 3) (hn : n = 1000 * k + 100 * d + 30 * (v + 1) + m) (h1 : 0 ≤ d) (h2 : d ≤ 8) (h3 : -1 ≤ v) (h4 : v ≤ 1) (h5 : 0 ≤ m) (h6 : m ≤ 6) (h7 : k = 1 → m = 0) : sayP n = (k, 0, 0, 0, d, v, m, true) := by
  have e1 : n / 1000 = k := by omega
  have e2 : n % 1000 = 100 * d + 30 * (v + 1) + m := by omega
  have e3 : (100 * d + 30 * (v + 1) + m) / 100 = d := by omega
  have e4 : (100 * d + 30 * (v + 1) + m) % 100 = 30 * (v + 1) + m := by omega
  have e5 : (30 * (v + 1) + m) / 30 = v + 1 := by omega
  have e6 : (30 * (v + 1) + m) % 30 = m := by omega
  unfold sayP
  rw [e1, e2, e3, e4, e5, e6, if_neg (by omega), if_neg (by omega), if_neg (by omega)]
  simp only [Prod.mk.injEq, and_true, true_and]
  omega
theorem say_code {k c b l d v m : Int} (h : okS k c b l d v m) : sayP (codeN k d v m) = (k, 0, 0, 0, d, v, m, true) ∧ 1000 ≤ codeN k d v m ∧ codeN k d v m ≤ 4032 := by
  unfold okS at h
  obtain ⟨b1, b2, l1, l2, hk⟩ := h
  rcases hk with ⟨rfl, hc, h1, h2, h3, h4, rfl⟩ | ⟨rfl, hc, rfl, rfl, rfl⟩ | ⟨rfl, hc, hc', h1, h2, h3, h4, h5, h6, h7⟩ | ⟨rfl, hc, rfl, rfl, h3, h4, h5⟩
  · have e : codeN 1 d v 0 = 1000 * 1 + 100 * d + 30 * (v + 1) + 0 := by simp [codeN]
    exact ⟨say_gen _ 1 d v 0 (.inl rfl) e h1 h2 h3 h4 (by omega) (by omega) (fun _ => rfl), by omega, by omega⟩
  · simp [codeN, sayP]
  · have e : codeN 3 d v m = 1000 * 3 + 100 * d + 30 * (v + 1) + m := by simp [codeN]
    exact ⟨say_gen _ 3 d v m (.inr rfl) e h1 h2 h3 h4 h5 h6 (fun h => by omega), by omega, by omega⟩
  · have e : codeN 4 0 0 m = 4016 + m := by simp [codeN]
    rw [e]
    refine ⟨?_, by omega, by omega⟩
    unfold sayP
    rw [if_neg (by omega), if_pos (by omega)]
    simp only [Prod.mk.injEq, and_true, true_and]
    omega
theorem code_say (n : Int) (h : (sayP n).2.2.2.2.2.2.2 = true) : codeN (sayP n).1 (sayP n).2.2.2.2.1 (sayP n).2.2.2.2.2.1 (sayP n).2.2.2.2.2.2.1 = n := by
  unfold sayP at *
  by_cases h1 : n = 2000
  · rw [if_pos h1] at *; simp [codeN, h1]
  · rw [if_neg h1] at *
    by_cases h2 : 4000 ≤ n ∧ n ≤ 4032 ∧ n ≠ 4016
    · rw [if_pos h2] at *; simp [codeN]; omega
    · rw [if_neg h2] at *
      split at h
      · cases h
      · rename_i h3
        rw [if_neg h3]
        simp only [codeN]
        rw [if_neg (by omega), if_neg (by omega)]
        omega
end Go.Proofs.Ytnepoolmbfhppaa.P

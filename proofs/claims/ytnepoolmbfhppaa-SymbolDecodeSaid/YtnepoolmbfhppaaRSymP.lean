/- What the reference's Check says, as the same plain function of the numbers; no condition. -/
import Derived.Test.YtnepoolmbfhppaaSymP
import Derived.Test.YtnepoolmbfhppaaP4
set_option linter.unusedVariables false
set_option linter.unusedSimpArgs false
namespace Go.Proofs.Ytnepoolmbfhppaa.P
open Go.RowKit Go.Proofs.YtnepoolmbfhppaaW.PrintWords Go.Proofs.YtnepoolmbfhppaaW.PrintLast Go.Proofs.YtnepoolmbfhppaaW.PrintMore
theorem column_eq (j : Nat) (k c : Int) (h : ¬ (k < 1 ∨ 4 < k)) : dancestudioref23_column.f (j + 1) k c = some (decide (colP k c)) := by
  unfold dancestudioref23_column.f dancestudioref23_column.j0 colP
  grind
theorem refCheck_1 (j : Nat) (x : Bool) (k c b l d v m : Int) (h1 : ¬ (k < 1 ∨ 4 < k)) (hc : 0 ≤ c ∧ c ≤ 8) : dancestudioref23_Check.j1 (j + 2) x k c b l d v m = some (if x = true then 1 else sayC k c d v m) := by
  simp only [dancestudioref23_Check.j1, sayC]
  rw [wrap_in (c - 2) (by omega) (by omega)]
  cases x with
  | true => simp
  | false =>
    simp only [if_neg (show ¬ (false = true) by decide)]
    by_cases k1 : k = 1
    · rw [if_pos k1, if_pos k1]
      have e : dancestudioref16_Check.f d v = some (if 0 ≤ d ∧ d ≤ 8 ∧ -1 ≤ v ∧ v ≤ 1 then 0 else 1) := dancestudioref18_Of.dcheck_eq d v
      rw [e, Option.bind_some]
      by_cases h : 0 ≤ d ∧ d ≤ 8 ∧ -1 ≤ v ∧ v ≤ 1
      · rw [if_pos h, if_pos h, if_pos rfl]; split <;> rfl
      · rw [if_neg h, if_neg h, if_neg (by decide)]
    · rw [if_neg k1, if_neg k1]
      by_cases k3 : k = 3
      · rw [if_pos k3, if_neg (by omega), if_pos k3]
        simp only [dancestudioref18_Of.f, Option.bind_some]
      · rw [if_neg k3, if_neg k3]
        simp only [dancestudioref23_Check.j2]
        by_cases k2 : k = 2
        · by_cases h : d = 0 <;> by_cases h' : v = 0 <;> by_cases h'' : m = 0 <;> simp [h, h', h'', k2]
        · have k4 : k = 4 := by omega
          by_cases h : d = 0 <;> by_cases h' : v = 0 <;> simp [k4, h, h']
          by_cases a : m < -16 <;> by_cases a' : 16 < m <;> by_cases a'' : m = 0 <;> simp [a, a', a'']
theorem refCheck_j (j : Nat) (x : Bool) (k c b l d v m : Int) (hx : x = false) (h1 : ¬ (k < 1 ∨ 4 < k)) : dancestudioref23_Check.j0 (j + 3) x k c b l d v m = some (chkP k c b l d v m) := by
  subst hx
  simp only [dancestudioref23_Check.j0, chkP, if_neg h1]
  rw [column_eq (j + 1) k c h1, if_neg (by decide)]
  simp only [Option.bind_some, decide_eq_true_eq]
  by_cases h2 : colP k c
  · have hc : 0 ≤ c ∧ c ≤ 8 := by unfold colP at h2; grind
    rw [if_pos h2, if_neg (not_not_intro h2), refCheck_1 j _ k c b l d v m h1 hc, refCheck_1 j _ k c b l d v m h1 hc]
    by_cases h3 : b < 0 ∨ 8191 < b
    · rw [if_pos (by omega : b < 0 ∨ 8191 < b ∨ l < 1 ∨ 8192 - b < l)]
      rcases h3 with h3 | h3
      · rw [if_pos h3]; rfl
      · rw [if_neg (by omega), if_pos (by omega)]; rfl
    · rw [wrap_in (8192 - b) (by omega) (by omega), if_neg (by omega), if_neg (by omega)]
      by_cases h4 : l < 1 ∨ 8192 - b < l
      · rw [if_pos (by omega : b < 0 ∨ 8191 < b ∨ l < 1 ∨ 8192 - b < l)]
        rcases h4 with h4 | h4
        · rw [if_pos h4]; rfl
        · by_cases h5 : l < 1
          · rw [if_pos h5]; rfl
          · rw [if_neg h5, if_pos (by simpa using h4)]
      · rw [if_neg (by omega), if_neg (by simp; omega), if_neg (by omega : ¬ (b < 0 ∨ 8191 < b ∨ l < 1 ∨ 8192 - b < l))]
  · rw [if_neg h2, if_pos h2]
theorem refCheck_eq (j : Nat) (k c b l d v m : Int) : dancestudioref23_Check.f (j + 3) k c b l d v m = some (chkP k c b l d v m) := by
  unfold dancestudioref23_Check.f
  by_cases h1 : k < 1 ∨ 4 < k
  · have e : chkP k c b l d v m = 9 := by rw [chkP, if_pos h1]
    rw [e]
    rcases h1 with h1 | h1
    · rw [if_pos h1]; simp [dancestudioref23_Check.j0]
    · rw [if_neg (by omega)]; simp [dancestudioref23_Check.j0, h1]
  · rw [if_neg (by omega)]
    exact refCheck_j j _ k c b l d v m (by simp; omega) h1
end Go.Proofs.Ytnepoolmbfhppaa.P

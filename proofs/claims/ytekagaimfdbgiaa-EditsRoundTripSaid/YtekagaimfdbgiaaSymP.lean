/- What symbol.Check says, as one plain function of the numbers; no condition. -/
import Derived.Test.YtekagaimfdbgiaaP7
set_option linter.unusedVariables false
set_option linter.unusedSimpArgs false
namespace Go.Proofs.Ytekagaimfdbgiaa.P
open Go.RowKit Go.Proofs.YtekagaimfdbgiaaW.PrintWords Go.Proofs.YtekagaimfdbgiaaW.PrintLast Go.Proofs.YtekagaimfdbgiaaW.PrintMore
theorem wrap_in (x : Int) (h0 : -9223372036854775808 ≤ x) (h1 : x ≤ 9223372036854775807) : wrap64 x = x := by unfold wrap64; omega
def colP (k c : Int) : Prop := if k = 1 ∨ k = 2 then c = 0 ∨ c = 1 else if k = 3 then 2 ≤ c ∧ c < 8 else c = 8
instance (k c : Int) : Decidable (colP k c) := by unfold colP; infer_instance
def sayC (k c d v m : Int) : Int :=
  if k = 1 then (if 0 ≤ d ∧ d ≤ 8 ∧ -1 ≤ v ∧ v ≤ 1 then (if m = 0 then 0 else 2) else 1)
  else if k = 2 then (if d = 0 ∧ v = 0 ∧ m = 0 then 0 else 2)
  else if k = 3 then (ofP (c - 2) d v m).2.2.2
  else if k = 4 then (if d = 0 ∧ v = 0 then (if m < -16 ∨ 16 < m ∨ m = 0 then 1 else 0) else 2) else 0
/-- The error of Check. -/
def chkP (k c b l d v m : Int) : Int :=
  if k < 1 ∨ 4 < k then 9
  else if ¬ colP k c then 16
  else if b < 0 ∨ 8191 < b ∨ l < 1 ∨ 8192 - b < l then 1
  else sayC k c d v m
theorem says_eq (j : Nat) (k c b l d v m : Int) (hc : 0 ≤ c ∧ c ≤ 8) : symbol_says.f (j + 1) k c b l d v m = some (sayC k c d v m) := by
  unfold symbol_says.f sayC
  rw [wrap_in (c - 2) (by omega) (by omega)]
  by_cases k1 : k = 1
  · rw [if_pos k1, if_pos k1]
    have e : dir_Check.f d v = some (if 0 ≤ d ∧ d ≤ 8 ∧ -1 ≤ v ∧ v ≤ 1 then 0 else 1) := aim_Of.dcheck_eq d v
    rw [e, Option.bind_some]
    by_cases h : 0 ≤ d ∧ d ≤ 8 ∧ -1 ≤ v ∧ v ≤ 1
    · rw [if_pos h, if_pos h, if_pos rfl]; split <;> rfl
    · rw [if_neg h, if_neg h, if_neg (by decide)]
  · rw [if_neg k1, if_neg k1]
    by_cases k2 : k = 2
    · rw [if_pos k2, if_pos k2]
      by_cases h : d = 0 <;> by_cases h' : v = 0 <;> by_cases h'' : m = 0 <;> simp [h, h', h'']
    · rw [if_neg k2, if_neg k2]
      by_cases k3 : k = 3
      · rw [if_pos k3, if_pos k3]
        simp only [aim_Of.f, Option.bind_some]
      · rw [if_neg k3, if_neg k3]
        simp only [symbol_says.j0]
        by_cases k4 : k = 4 <;> by_cases h : d = 0 <;> by_cases h' : v = 0 <;> simp [k4, h, h']
        by_cases a : m < -16 <;> by_cases a' : 16 < m <;> by_cases a'' : m = 0 <;> simp [a, a', a'']
theorem place_eq (k c b l d v m : Int) (h : ¬ (k < 1 ∨ 4 < k)) : symbol_place.f k c b l d v m = some (decide (colP k c)) := by
  unfold symbol_place.f symbol_support.f colP
  grind
theorem symCheck_j (j : Nat) (x : Bool) (k c b l d v m : Int) (hx : x = false) (h1 : ¬ (k < 1 ∨ 4 < k)) : symbol_Check.j0 (j + 2) x k c b l d v m = some (chkP k c b l d v m) := by
  subst hx
  simp only [symbol_Check.j0, chkP, if_neg h1]
  rw [place_eq k c b l d v m h1, if_neg (by decide)]
  simp only [Option.bind_some, decide_eq_true_eq]
  by_cases h2 : colP k c
  · have hc : 0 ≤ c ∧ c ≤ 8 := by unfold colP at h2; grind
    rw [if_pos h2, if_neg (not_not_intro h2), says_eq j k c b l d v m hc]
    by_cases h3 : b < 0 ∨ 8191 < b
    · rw [if_pos (by omega : b < 0 ∨ 8191 < b ∨ l < 1 ∨ 8192 - b < l)]
      rcases h3 with h3 | h3
      · rw [if_pos h3]
      · rw [if_neg (by omega), if_pos (by omega)]
    · rw [wrap_in (8192 - b) (by omega) (by omega), if_neg (by omega), if_neg (by omega)]
      by_cases h4 : l < 1 ∨ 8192 - b < l
      · rw [if_pos (by omega : b < 0 ∨ 8191 < b ∨ l < 1 ∨ 8192 - b < l)]
        rcases h4 with h4 | h4
        · rw [if_pos h4]
        · by_cases h5 : l < 1
          · rw [if_pos h5]
          · rw [if_neg h5, if_pos (by omega)]
      · rw [if_neg (by omega), if_neg (by omega), if_neg (by omega : ¬ (b < 0 ∨ 8191 < b ∨ l < 1 ∨ 8192 - b < l))]
        rfl
  · rw [if_neg h2, if_pos h2]
theorem symCheck_eq (j : Nat) (k c b l d v m : Int) : symbol_Check.f (j + 2) k c b l d v m = some (chkP k c b l d v m) := by
  unfold symbol_Check.f
  by_cases h1 : k < 1 ∨ 4 < k
  · have e : chkP k c b l d v m = 9 := by rw [chkP, if_pos h1]
    rw [e]
    rcases h1 with h1 | h1
    · rw [if_pos h1]; simp [symbol_Check.j0]
    · rw [if_neg (by omega)]; simp [symbol_Check.j0, h1]
  · rw [if_neg (by omega)]
    exact symCheck_j j _ k c b l d v m (by simp; omega) h1
end Go.Proofs.Ytekagaimfdbgiaa.P

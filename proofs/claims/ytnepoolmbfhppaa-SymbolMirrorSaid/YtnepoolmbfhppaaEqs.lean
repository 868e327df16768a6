/- What the printed functions of symbol are, as plain functions of the numbers; no condition. -/
import Derived.Test.YtnepoolmbfhppaaAwakeEq
import Derived.Test.YtnepoolmbfhppaaDec
import Derived.Test.YtnepoolmbfhppaaRMir
set_option linter.unusedVariables false
set_option linter.unusedSimpArgs false
namespace Go.Proofs.Ytnepoolmbfhppaa.P
open Go.RowKit Go.Proofs.YtnepoolmbfhppaaW.PrintWords Go.Proofs.YtnepoolmbfhppaaW.PrintLast Go.Proofs.YtnepoolmbfhppaaW.PrintMore
theorem symMirror_eq (j : Nat) (k c b l d v m : Int) : symbol_Mirror.f (j + 2) k c b l d v m = some (mirP k c b l d v m) := by
  unfold symbol_Mirror.f mirP
  rw [symCheck_eq, Option.bind_some]
  by_cases h0 : chkP k c b l d v m = 0
  · have hb := chk_bounds h0
    rw [if_pos h0, if_pos h0]
    have hc := hb.2.2.1
    have hk : k = 1 ∨ k = 2 ∨ k = 3 ∨ k = 4 := by omega
    rcases hk with rfl | rfl | rfl | rfl
    · rw [dirm_eq d (by omega) (by omega), wrap_in (1 - c) (by omega) (by omega)]
      simp [mcol, mdir, h0]
    · rw [wrap_in (1 - c) (by omega) (by omega)]
      simp [mcol, mdir, h0]
    · simp [colP] at hc
      rw [dirm_eq d (by omega) (by omega), wrap_in (c - 2) (by omega) (by omega), swap_eq c (by omega) (by omega)]
      have : 0 ≤ mcol 3 c ∧ mcol 3 c ≤ 8 := by unfold mcol; omega
      simp [h0]
      rw [wrap_in (mcol 3 c) (by omega) (by omega)]
      simp [mdir]
    · rw [wrap_in (-m) (by omega) (by omega)]
      simp [h0]
  · rw [if_neg h0, if_neg h0]
def codeN (k d v m : Int) : Int := if k = 2 then 2000 else if k = 4 then 4016 + m else 1000 * k + 100 * d + 30 * (v + 1) + m
def codeP (k c b l d v m : Int) : Int × Int := if chkP k c b l d v m = 0 then (codeN k d v m, 0) else (0, chkP k c b l d v m)
theorem symCode_eq (j : Nat) (k c b l d v m : Int) : symbol_Code.f (j + 2) k c b l d v m = some (codeP k c b l d v m) := by
  unfold symbol_Code.f codeP codeN
  rw [symCheck_eq, Option.bind_some]
  by_cases h0 : chkP k c b l d v m = 0
  · have hb := chk_bounds h0
    rw [if_pos h0, if_pos h0]
    by_cases h2 : k = 2
    · rw [if_pos h2, if_pos h2]
    · rw [if_neg h2, if_neg h2]
      by_cases h4 : k = 4
      · rw [if_pos h4, if_pos h4, wrap_in _ (by omega) (by omega)]
      · rw [if_neg h4, if_neg h4, wrap_in (1000 * k) (by omega) (by omega), wrap_in (100 * d) (by omega) (by omega), wrap_in (v + 1) (by omega) (by omega), wrap_in (30 * (v + 1)) (by omega) (by omega), wrap_in (1000 * k + 100 * d) (by omega) (by omega), wrap_in (1000 * k + 100 * d + 30 * (v + 1)) (by omega) (by omega), wrap_in _ (by omega) (by omega)]
  · rw [if_neg h0, if_neg h0]
def tarP (k c b l d v m : Int) : Int × Int × Int × Int := if chkP k c b l d v m = 0 then (if k = 3 then (d, v, m, 0) else (0, 0, 0, 9)) else (0, 0, 0, chkP k c b l d v m)
theorem symTarget_eq (j : Nat) (k c b l d v m : Int) : symbol_Target.f (j + 2) k c b l d v m = some (tarP k c b l d v m) := by
  unfold symbol_Target.f tarP
  rw [symCheck_eq, Option.bind_some]
  split
  · split <;> rfl
  · rfl
end Go.Proofs.Ytnepoolmbfhppaa.P

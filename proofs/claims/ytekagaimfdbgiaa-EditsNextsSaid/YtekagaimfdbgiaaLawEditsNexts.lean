/- The law EditsNexts, for every input: its row, out of what its call does (printed) and the plain statement Pure.EditsNexts; no condition. -/
import Derived.Test.YtekagaimfdbgiaaRows
import Derived.Test.YtekagaimfdbgiaaP29
import Derived.Test.YtekagaimfdbgiaaPureEditsNexts
import Derived.Test.YtekagaimfdbgiaaOpen
import Derived.WalkKit
import Derived.ProofKit
import Derived.OpenShut
import Derived.ShutString
import Derived.ChangeOld
import Derived.Below
import Derived.SizedLaws
import Derived.Carry
namespace Go.Proofs.Ytekagaimfdbgiaa.editsNexts
open Go.ChangeShapes Go.WideShapes Go.ChangeAt Go.RowKit Go.Proofs.YtekagaimfdbgiaaW.PrintWords Go.Proofs.Ytekagaimfdbgiaa.Open Go.Proofs.Ytekagaimfdbgiaa.P
open Go.ChangeMaps (open_string shut_string)
set_option linter.unusedVariables false
theorem own : ownKnob Try.prog.godebug = none := by kernel_rfl
theorem laidOut : laidOutB Try.prog = true := by kernel_rfl
theorem ops3 : Opens Try.prog 3 (Kd.int .i64) okI := opens_i64 Try.underlying3 (by kernel_rfl)
def ok23 (x : S23) : Prop := (okI x.f0) ∧ (okI x.f1)
theorem ops23 : Opens Try.prog 23 k23 ok23 := opens_struct Try.underlying23 (by kernel_rfl) (opensF_cons rfl ops3 (opensF_one rfl ops3)) (fun x : S23 => (x.f0, x.f1)) (fun a => ⟨a.1, a.2⟩) (fun _ => rfl)
theorem ops39 : Opens Try.prog 39 (Kd.slice 23 k23) (fun xs => xs.length ≤ maxLen ∧ xs.length * 16 ≤ 140737488351232 ∧ ∀ y ∈ xs, (ok23 y)) := opens_slice Try.underlying39 (by kernel_rfl) (by kernel_rfl) ops23
set_option maxRecDepth 100000 in
theorem lifted (os : Os) (started : os.Started) (H : Type) (enc : TypeId × Value → H) :
    ReturnsInHanded {} Try.checked os 5 .any (Rows.editsNextsSpec.pre6 enc Try.prog Try.f5 Rows.editsNextsRow.domain false) (Rows.editsNextsSpec.post enc Try.prog Try.f5 false true false false) := by
  refine returnsInHanded_of_change_sized (C := Try.checked) own started (by kernel_rfl) Try.func5
    (ChangeSpec.witness6 (enc := enc) (C := Try.checked) false ⟨#[], #[.int .i64 0, .slice none 0 0], []⟩ 8 (by kernel_rfl) (by kernel_rfl) (by kernel_rfl) (by kernel_rfl)) ?_
  intro W base args ds gs before hval0 hW hcnd hsz0 _
  have hsz : (DataW.weightsEach Try.prog (Try.f5.params.toList ++ Rows.editsNextsSpec.plain.varTypes Try.prog) (ds ++ gs)).all (· ≤ reachBytes) = true := hsz0
  have hval : ∀ (j : Nat) t v, Try.f5.params[j]? = some t → args[j]? = some v → Value.okWide Try.prog W .any base t v := hval0
  have hW' := hW
  obtain ⟨p, q, hA0, hV, rfl, hfz, hnd⟩ := hW
  have hA : DataW.TrodAll enc Try.prog W 0 (fun _ => true) true Try.f5.params.toList args.toList ds p := hA0
  rw [Try.params5] at hA hval hsz
  obtain ⟨v0, vs0, d0, ds0, p0, q0, hargs, rfl, rfl, h0, r0⟩ := trodAll_cons hA
  obtain ⟨v1, vs1, d1, ds1, p1, q1, rfl, rfl, rfl, h1, r1⟩ := trodAll_cons r0
  obtain ⟨rfl, rfl, rfl⟩ := trodAll_nil r1
  obtain rfl : args = #[v0, v1] := by cases args; simp_all
  obtain ⟨rfl, rfl⟩ := trodVars_none hV
  obtain ⟨a0, rfl, rfl, rfl, w0⟩ := open_int Try.underlying3 (hval 0 3 v0 rfl rfl) h0
  have k1 := h1
  have lt1 : ∀ x ∈ p1, x.block < W.heap.size := by obtain ⟨m, hm⟩ := k1; exact DataW.trod_lt m _ _ _ hm
  obtain ⟨l1, A1, c1, rfl, hc1, hr1, o1⟩ := open_row (j := 1) ops39 Try.underlying39 (hval 1 39 v1 rfl rfl) hsz rfl rfl h1
  clear hA0 hval0 hsz0 hsz
  obtain ⟨k, hk⟩ := Pure.EditsNexts a0 l1 (bounds_i64 w0) o1
  refine (dancestudiolaw56_EditsNexts.calls k a0 _ _ l1 true W hr1 hc1 hk).mono fun e W' ⟨he, bel⟩ => ?_
  subst he
  exact ⟨_, rfl, _, _, _, [], _, [], hW', trodAll_mk1 (shut_bool Try.underlying4 _), (trodAll_cons_mk (shut_int Try.underlying3 w0) (trodAll_cons_mk (Below.trod laidOut (by kernel_rfl) (of_decide_eq_true (by kernel_rfl)) k1 bel lt1) trodAll_mk0)), rfl, bel.frame _, fun h => by cases h⟩
theorem over : Rows.editsNextsRow.holds Try.pinned (OpenSpec.ofChange Rows.editsNextsSpec) :=
  OpenClaim.holds_of_wide 5 Try.f5 rfl rfl rfl rfl rfl rfl rfl ⟨rfl, rfl, rfl, rfl, rfl⟩ rfl rfl rfl rfl rfl (by kernel_rfl) Try.func5 (by kernel_rfl)
    (of_decide_eq_true (by kernel_rfl)) (by unfold Func.isWrapper; first | (rw [if_pos (by decide +kernel)]; kernel_rfl) | (rw [if_neg (by decide +kernel)]; exact ⟨rfl, rfl⟩))
    (fun os started H enc _ => lifted os started H enc)
theorem proved : Rows.EditsNextsSaid := over
#print axioms proved
end Go.Proofs.Ytekagaimfdbgiaa.editsNexts
namespace Go.Proofs.Ytekagaimfdbgiaa
/-- The row, under a short name, for the claim. -/
theorem editsNexts_holds : Rows.EditsNextsSaid := editsNexts.proved
end Go.Proofs.Ytekagaimfdbgiaa

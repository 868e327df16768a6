/- The law EditsChecks, for every input: its row, out of what its call does (printed) and the plain statement Pure.EditsChecks; no condition. -/
import Derived.Test.YtekagaimfdbgiaaRows
import Derived.Test.YtekagaimfdbgiaaP23
import Derived.Test.YtekagaimfdbgiaaPureEditsChecks
import Derived.Test.YtekagaimfdbgiaaOpen
import Derived.WalkKit
import Derived.ProofKit
import Derived.OpenShut
import Derived.ShutString
import Derived.ChangeOld
import Derived.Below
import Derived.SizedLaws
import Derived.Carry
namespace Go.Proofs.Ytekagaimfdbgiaa.editsChecks
open Go.ChangeShapes Go.WideShapes Go.ChangeAt Go.RowKit Go.Proofs.YtekagaimfdbgiaaW.PrintWords Go.Proofs.Ytekagaimfdbgiaa.Open Go.Proofs.Ytekagaimfdbgiaa.P
open Go.ChangeMaps (open_string shut_string)
set_option linter.unusedVariables false
theorem own : ownKnob Try.prog.godebug = none := by kernel_rfl
theorem laidOut : laidOutB Try.prog = true := by kernel_rfl
theorem ops3 : Opens Try.prog 3 (Kd.int .i64) okI := opens_i64 Try.underlying3 (by kernel_rfl)
def ok23 (x : S23) : Prop := (okI x.f0) ∧ (okI x.f1)
theorem ops23 : Opens Try.prog 23 k23 ok23 := opens_struct Try.underlying23 (by kernel_rfl) (opensF_cons rfl ops3 (opensF_one rfl ops3)) (fun x : S23 => (x.f0, x.f1)) (fun a => ⟨a.1, a.2⟩) (fun _ => rfl)
theorem ops4 : Opens Try.prog 4 Kd.bool (fun _ => True) := opens_bool Try.underlying4 (by kernel_rfl)
def ok25 (x : S25) : Prop := (okI x.f0) ∧ (okI x.f1) ∧ (okI x.f2) ∧ (okI x.f3) ∧ (okI x.f4) ∧ (okI x.f5) ∧ (okI x.f6)
theorem ops25 : Opens Try.prog 25 k25 ok25 := opens_struct Try.underlying25 (by kernel_rfl) (opensF_cons rfl ops3 (opensF_cons rfl ops3 (opensF_cons rfl ops3 (opensF_cons rfl ops3 (opensF_cons rfl ops3 (opensF_cons rfl ops3 (opensF_one rfl ops3))))))) (fun x : S25 => (x.f0, x.f1, x.f2, x.f3, x.f4, x.f5, x.f6)) (fun a => ⟨a.1, a.2.1, a.2.2.1, a.2.2.2.1, a.2.2.2.2.1, a.2.2.2.2.2.1, a.2.2.2.2.2.2⟩) (fun _ => rfl)
def ok27 (x : S27) : Prop := (ok23 x.f0) ∧ (okI x.f1) ∧ (ok23 x.f2) ∧ (True) ∧ (ok25 x.f4)
theorem ops27 : Opens Try.prog 27 k27 ok27 := opens_struct Try.underlying27 (by kernel_rfl) (opensF_cons rfl ops23 (opensF_cons rfl ops3 (opensF_cons rfl ops23 (opensF_cons rfl ops4 (opensF_one rfl ops25))))) (fun x : S27 => (x.f0, x.f1, x.f2, x.f3, x.f4)) (fun a => ⟨a.1, a.2.1, a.2.2.1, a.2.2.2.1, a.2.2.2.2⟩) (fun _ => rfl)
set_option maxRecDepth 100000 in
theorem lifted (os : Os) (started : os.Started) (H : Type) (enc : TypeId × Value → H) :
    ReturnsInHanded {} Try.checked os 3 .any (Rows.editsChecksSpec.pre6 enc Try.prog Try.f3 Rows.editsChecksRow.domain false) (Rows.editsChecksSpec.post enc Try.prog Try.f3 false true false false) := by
  refine returnsInHanded_of_change_sized (C := Try.checked) own started (by kernel_rfl) Try.func3
    (ChangeSpec.witness6 (enc := enc) (C := Try.checked) false ⟨#[], #[.agg #[.int .i64 0, .int .i64 0, .int .i64 0, .int .i64 0, .int .i64 0, .bool false, .int .i64 0, .int .i64 0, .int .i64 0, .int .i64 0, .int .i64 0, .int .i64 0, .int .i64 0]], []⟩ 8 (by kernel_rfl) (by kernel_rfl) (by kernel_rfl) (by kernel_rfl)) ?_
  intro W base args ds gs before hval0 hW hcnd hsz0 _
  have hsz : (DataW.weightsEach Try.prog (Try.f3.params.toList ++ Rows.editsChecksSpec.plain.varTypes Try.prog) (ds ++ gs)).all (· ≤ reachBytes) = true := hsz0
  have hval : ∀ (j : Nat) t v, Try.f3.params[j]? = some t → args[j]? = some v → Value.okWide Try.prog W .any base t v := hval0
  have hW' := hW
  obtain ⟨p, q, hA0, hV, rfl, hfz, hnd⟩ := hW
  have hA : DataW.TrodAll enc Try.prog W 0 (fun _ => true) true Try.f3.params.toList args.toList ds p := hA0
  rw [Try.params3] at hA hval hsz
  obtain ⟨v0, vs0, d0, ds0, p0, q0, hargs, rfl, rfl, h0, r0⟩ := trodAll_cons hA
  obtain ⟨rfl, rfl, rfl⟩ := trodAll_nil r0
  obtain rfl : args = #[v0] := by cases args; simp_all
  obtain ⟨rfl, rfl⟩ := trodVars_none hV
  have k0 := h0
  have lt0 : ∀ x ∈ p0, x.block < W.heap.size := by obtain ⟨m, hm⟩ := k0; exact DataW.trod_lt m _ _ _ hm
  obtain ⟨s0, cs0, rfl, kk0, o0⟩ := open_agg (j := 0) ops27 Try.underlying27 (hval 0 27 v0 rfl rfl) hsz rfl rfl h0
  obtain ⟨_, _, hcs0, ⟨_, _, rfl, rfl, rfl⟩, ⟨_, _, rfl, rfl, ⟨_, _, rfl, ⟨_, _, rfl, rfl, rfl⟩, ⟨_, _, rfl, rfl, ⟨_, _, rfl, rfl, ⟨_, _, rfl, rfl, ⟨_, _, rfl, rfl, ⟨_, _, rfl, rfl, ⟨_, _, rfl, rfl, ⟨_, _, rfl, rfl, rfl⟩⟩⟩⟩⟩⟩⟩⟩⟩⟩ := kk0
  obtain rfl : cs0 = #[.int .i64 s0.f0.f0, .int .i64 s0.f0.f1, .int .i64 s0.f1, .int .i64 s0.f2.f0, .int .i64 s0.f2.f1, .bool s0.f3, .int .i64 s0.f4.f0, .int .i64 s0.f4.f1, .int .i64 s0.f4.f2, .int .i64 s0.f4.f3, .int .i64 s0.f4.f4, .int .i64 s0.f4.f5, .int .i64 s0.f4.f6] := by apply Array.toList_inj.1; rw [hcs0]; rfl
  clear hA0 hval0 hsz0 hsz
  obtain ⟨k, hk⟩ := Pure.EditsChecks s0.f0.f0 s0.f0.f1 s0.f1 s0.f2.f0 s0.f2.f1 s0.f3 s0.f4.f0 s0.f4.f1 s0.f4.f2 s0.f4.f3 s0.f4.f4 s0.f4.f5 s0.f4.f6 (o0.1.1) (o0.1.2) (o0.2.1) (o0.2.2.1.1) (o0.2.2.1.2) (o0.2.2.2.2.1) (o0.2.2.2.2.2.1) (o0.2.2.2.2.2.2.1) (o0.2.2.2.2.2.2.2.1) (o0.2.2.2.2.2.2.2.2.1) (o0.2.2.2.2.2.2.2.2.2.1) (o0.2.2.2.2.2.2.2.2.2.2)
  refine (dancestudiolaw56_EditsChecks.calls k s0.f0.f0 s0.f0.f1 s0.f1 s0.f2.f0 s0.f2.f1 s0.f3 s0.f4.f0 s0.f4.f1 s0.f4.f2 s0.f4.f3 s0.f4.f4 s0.f4.f5 s0.f4.f6 true W  hk).mono fun e W' ⟨he, bel⟩ => ?_
  subst he
  exact ⟨_, rfl, _, _, _, [], _, [], hW', trodAll_mk1 (shut_bool Try.underlying4 _), (trodAll_cons_mk (Below.trod laidOut (by kernel_rfl) (of_decide_eq_true (by kernel_rfl)) k0 bel lt0) trodAll_mk0), rfl, bel.frame _, fun h => by cases h⟩
theorem over : Rows.editsChecksRow.holds Try.pinned (OpenSpec.ofChange Rows.editsChecksSpec) :=
  OpenClaim.holds_of_wide 3 Try.f3 rfl rfl rfl rfl rfl rfl rfl ⟨rfl, rfl, rfl, rfl, rfl⟩ rfl rfl rfl rfl rfl (by kernel_rfl) Try.func3 (by kernel_rfl)
    (of_decide_eq_true (by kernel_rfl)) (by unfold Func.isWrapper; first | (rw [if_pos (by decide +kernel)]; kernel_rfl) | (rw [if_neg (by decide +kernel)]; exact ⟨rfl, rfl⟩))
    (fun os started H enc _ => lifted os started H enc)
theorem proved : Rows.EditsChecksSaid := over
#print axioms proved
end Go.Proofs.Ytekagaimfdbgiaa.editsChecks
namespace Go.Proofs.Ytekagaimfdbgiaa
/-- The row, under a short name, for the claim. -/
theorem editsChecks_holds : Rows.EditsChecksSaid := editsChecks.proved
end Go.Proofs.Ytekagaimfdbgiaa

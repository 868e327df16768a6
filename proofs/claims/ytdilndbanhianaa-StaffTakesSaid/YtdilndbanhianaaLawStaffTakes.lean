/- The law StaffTakes, for every input: its row, out of what its call does (printed) and the plain statement Pure.StaffTakes; no condition. -/
import Derived.Test.YtdilndbanhianaaRows
import Derived.Test.YtdilndbanhianaaP32
import Derived.Test.YtdilndbanhianaaPureStaffTakes
import Derived.Test.YtdilndbanhianaaUOpen
import Derived.WalkKit
import Derived.ProofKit
import Derived.OpenShut
import Derived.ShutString
import Derived.ChangeOld
import Derived.Below
import Derived.SizedLaws
import Derived.Carry
namespace Go.Proofs.Ytdilndbanhianaa.staffTakes
open Go.ChangeShapes Go.WideShapes Go.ChangeAt Go.RowKit Go.Proofs.YtdilndbanhianaaW.PrintWords Go.Proofs.Ytdilndbanhianaa.Open Go.Proofs.Ytdilndbanhianaa.P
open Go.ChangeMaps (open_string shut_string)
set_option linter.unusedVariables false
theorem own : ownKnob Try.prog.godebug = none := by kernel_rfl
theorem laidOut : laidOutB Try.prog = true := by kernel_rfl
theorem ops3 : Opens Try.prog 3 (Kd.int .i64) okI := opens_i64 Try.underlying3 (by kernel_rfl)
def ok29 (x : S29) : Prop := (okI x.f0) ∧ (okI x.f1) ∧ (okI x.f2) ∧ (okI x.f3) ∧ (okI x.f4) ∧ (okI x.f5) ∧ (okI x.f6)
theorem ops29 : Opens Try.prog 29 k29 ok29 := opens_struct Try.underlying29 (by kernel_rfl) (opensF_cons rfl ops3 (opensF_cons rfl ops3 (opensF_cons rfl ops3 (opensF_cons rfl ops3 (opensF_cons rfl ops3 (opensF_cons rfl ops3 (opensF_one rfl ops3))))))) (fun x : S29 => (x.f0, x.f1, x.f2, x.f3, x.f4, x.f5, x.f6)) (fun a => ⟨a.1, a.2.1, a.2.2.1, a.2.2.2.1, a.2.2.2.2.1, a.2.2.2.2.2.1, a.2.2.2.2.2.2⟩) (fun _ => rfl)
theorem ops22 : Opens Try.prog 22 (Kd.slice 29 k29) (fun xs => xs.length ≤ maxLen ∧ xs.length * 56 ≤ 140737488351232 ∧ ∀ y ∈ xs, (ok29 y)) := opens_slice Try.underlying22 (by kernel_rfl) (by kernel_rfl) ops29
set_option maxRecDepth 100000 in
theorem lifted (os : Os) (started : os.Started) (H : Type) (enc : TypeId × Value → H) :
    ReturnsInHanded {} Try.checked os 10 .any (Rows.staffTakesSpec.pre6 enc Try.prog Try.f10 Rows.staffTakesRow.domain false) (Rows.staffTakesSpec.post enc Try.prog Try.f10 false true false false) := by
  refine returnsInHanded_of_change_sized (C := Try.checked) own started (by kernel_rfl) Try.func10
    (ChangeSpec.witness6 (enc := enc) (C := Try.checked) false ⟨#[], #[.slice none 0 0, .int .i64 0, .agg #[.int .i64 0, .int .i64 0, .int .i64 0, .int .i64 0, .int .i64 0, .int .i64 0, .int .i64 0]], []⟩ 8 (by kernel_rfl) (by kernel_rfl) (by kernel_rfl) (by kernel_rfl)) ?_
  intro W base args ds gs before hval0 hW hcnd hsz0 _
  have hsz : (DataW.weightsEach Try.prog (Try.f10.params.toList ++ Rows.staffTakesSpec.plain.varTypes Try.prog) (ds ++ gs)).all (· ≤ reachBytes) = true := hsz0
  have hval : ∀ (j : Nat) t v, Try.f10.params[j]? = some t → args[j]? = some v → Value.okWide Try.prog W .any base t v := hval0
  have hW' := hW
  obtain ⟨p, q, hA0, hV, rfl, hfz, hnd⟩ := hW
  have hA : DataW.TrodAll enc Try.prog W 0 (fun _ => true) true Try.f10.params.toList args.toList ds p := hA0
  rw [Try.params10] at hA hval hsz
  obtain ⟨v0, vs0, d0, ds0, p0, q0, hargs, rfl, rfl, h0, r0⟩ := trodAll_cons hA
  obtain ⟨v1, vs1, d1, ds1, p1, q1, rfl, rfl, rfl, h1, r1⟩ := trodAll_cons r0
  obtain ⟨v2, vs2, d2, ds2, p2, q2, rfl, rfl, rfl, h2, r2⟩ := trodAll_cons r1
  obtain ⟨rfl, rfl, rfl⟩ := trodAll_nil r2
  obtain rfl : args = #[v0, v1, v2] := by cases args; simp_all
  obtain ⟨rfl, rfl⟩ := trodVars_none hV
  have k0 := h0
  have lt0 : ∀ x ∈ p0, x.block < W.heap.size := by obtain ⟨m, hm⟩ := k0; exact DataW.trod_lt m _ _ _ hm
  obtain ⟨l0, A0, c0, rfl, hc0, hr0, o0⟩ := open_row (j := 0) ops22 Try.underlying22 (hval 0 22 v0 rfl rfl) hsz rfl rfl h0
  obtain ⟨a1, rfl, rfl, rfl, w1⟩ := open_int Try.underlying3 (hval 1 3 v1 rfl rfl) h1
  have k2 := h2
  have lt2 : ∀ x ∈ p2, x.block < W.heap.size := by obtain ⟨m, hm⟩ := k2; exact DataW.trod_lt m _ _ _ hm
  obtain ⟨s2, cs2, rfl, kk2, o2⟩ := open_agg (j := 2) ops29 Try.underlying29 (hval 2 29 v2 rfl rfl) hsz rfl rfl h2
  obtain ⟨_, _, hcs2, rfl, ⟨_, _, rfl, rfl, ⟨_, _, rfl, rfl, ⟨_, _, rfl, rfl, ⟨_, _, rfl, rfl, ⟨_, _, rfl, rfl, rfl⟩⟩⟩⟩⟩⟩ := kk2
  obtain rfl : cs2 = #[.int .i64 s2.f0, .int .i64 s2.f1, .int .i64 s2.f2, .int .i64 s2.f3, .int .i64 s2.f4, .int .i64 s2.f5, .int .i64 s2.f6] := by apply Array.toList_inj.1; rw [hcs2]; rfl
  clear hA0 hval0 hsz0 hsz
  obtain ⟨k, hk⟩ := Pure.StaffTakes l0 a1 s2.f0 s2.f1 s2.f2 s2.f3 s2.f4 s2.f5 s2.f6 o0 (bounds_i64 w1) (o2.1) (o2.2.1) (o2.2.2.1) (o2.2.2.2.1) (o2.2.2.2.2.1) (o2.2.2.2.2.2.1) (o2.2.2.2.2.2.2)
  refine (dancestudiolaw24_StaffTakes.calls k _ _ l0 a1 s2.f0 s2.f1 s2.f2 s2.f3 s2.f4 s2.f5 s2.f6 true W hr0 hc0 hk).mono fun e W' ⟨he, bel⟩ => ?_
  subst he
  exact ⟨_, rfl, _, _, _, [], _, [], hW', trodAll_mk1 (shut_bool Try.underlying4 _), (trodAll_cons_mk (Below.trod laidOut (by kernel_rfl) (of_decide_eq_true (by kernel_rfl)) k0 bel lt0) (trodAll_cons_mk (shut_int Try.underlying3 w1) (trodAll_cons_mk (Below.trod laidOut (by kernel_rfl) (of_decide_eq_true (by kernel_rfl)) k2 bel lt2) trodAll_mk0))), rfl, bel.frame _, fun h => by cases h⟩
theorem andI {a b : Bool} (h : a = true) (k : b = true) : (a && b) = true := by rw [h, k]; rfl
set_option maxHeartbeats 40000000 in
theorem closed : joinedFacts Try.prog 10 Try.f10 Rows.staffTakesSpec Rows.staffTakesRow = true := by
  unfold joinedFacts
  repeat' (with_reducible refine andI ?_ ?_)
  all_goals as_aux_lemma => kernel_rfl
theorem over : Rows.staffTakesRow.holds Try.pinned (OpenSpec.ofChange Rows.staffTakesSpec) :=
  OpenClaim.holds_of_wide 10 Try.f10 rfl rfl rfl rfl rfl rfl rfl ⟨rfl, rfl, rfl, rfl, rfl⟩ rfl rfl rfl rfl rfl (by kernel_rfl) Try.func10 closed
    (of_decide_eq_true (by kernel_rfl)) (by unfold Func.isWrapper; first | (rw [if_pos (by decide +kernel)]; kernel_rfl) | (rw [if_neg (by decide +kernel)]; exact ⟨rfl, rfl⟩))
    (fun os started H enc _ => lifted os started H enc)
theorem proved : Rows.StaffTakesSaid := over
#print axioms proved
end Go.Proofs.Ytdilndbanhianaa.staffTakes
namespace Go.Proofs.Ytdilndbanhianaa
/-- The row, under a short name, for the claim. -/
theorem staffTakes_holds : Rows.StaffTakesSaid := staffTakes.proved
end Go.Proofs.Ytdilndbanhianaa

import Derived.Test.YteopkkoblbmggaaRows
import Derived.Test.YteopkkoblbmggaaQAAW
import Derived.Test.YteopkkoblbmggaaQABB
import Derived.Test.YteopkkoblbmggaaQAAP
import Derived.WalkKit
import Derived.ProofKit
import Derived.OpenShut
import Derived.ShutString
import Derived.ChangeOld
import Derived.Below
import Derived.SizedLaws
import Derived.Carry
namespace Go.Proofs.Yteopkkoblbmggaa.replicaTaken
open Go.ChangeShapes Go.WideShapes Go.ChangeAt Go.RowKit Go.Proofs.YteopkkoblbmggaaW.PrintWords Go.Proofs.Yteopkkoblbmggaa.Open Go.Proofs.Yteopkkoblbmggaa.P
open Go.ChangeMaps (open_string shut_string)
set_option linter.unusedVariables false
theorem own : ownKnob Try.prog.godebug = none := by kernel_rfl
theorem laidOut : laidOutB Try.prog = true := by kernel_rfl
theorem ops3 : Opens Try.prog 3 (Kd.int .i64) okI := Y3Q Try.underlying3 (by kernel_rfl)
def ok26 (x : S26) : Prop := (okI x.f0) ∧ (okI x.f1)
theorem ops26 : Opens Try.prog 26 k26 ok26 := Y1o Try.underlying26 (by kernel_rfl) (YM rfl ops3 (Y1y rfl ops3)) (fun x : S26 => (x.f0, x.f1)) (fun a => ⟨a.1, a.2⟩) (fun _ => rfl)
theorem ops4 : Opens Try.prog 4 Kd.bool (fun _ => True) := Y3j Try.underlying4 (by kernel_rfl)
def ok28 (x : S28) : Prop := (okI x.f0) ∧ (okI x.f1) ∧ (okI x.f2) ∧ (okI x.f3) ∧ (okI x.f4) ∧ (okI x.f5) ∧ (okI x.f6)
theorem ops28 : Opens Try.prog 28 k28 ok28 := Y1o Try.underlying28 (by kernel_rfl) (YM rfl ops3 (YM rfl ops3 (YM rfl ops3 (YM rfl ops3 (YM rfl ops3 (YM rfl ops3 (Y1y rfl ops3))))))) (fun x : S28 => (x.f0, x.f1, x.f2, x.f3, x.f4, x.f5, x.f6)) (fun a => ⟨a.1, a.2.1, a.2.2.1, a.2.2.2.1, a.2.2.2.2.1, a.2.2.2.2.2.1, a.2.2.2.2.2.2⟩) (fun _ => rfl)
def ok30 (x : S30) : Prop := (ok26 x.f0) ∧ (okI x.f1) ∧ (ok26 x.f2) ∧ (True) ∧ (ok28 x.f4)
theorem ops30 : Opens Try.prog 30 k30 ok30 := Y1o Try.underlying30 (by kernel_rfl) (YM rfl ops26 (YM rfl ops3 (YM rfl ops26 (YM rfl ops4 (Y1y rfl ops28))))) (fun x : S30 => (x.f0, x.f1, x.f2, x.f3, x.f4)) (fun a => ⟨a.1, a.2.1, a.2.2.1, a.2.2.2.1, a.2.2.2.2⟩) (fun _ => rfl)
theorem ops22 : Opens Try.prog 22 (Kd.slice 30 k30) (fun xs => xs.length ≤ maxLen ∧ xs.length * 104 ≤ 140737488351232 ∧ ∀ y ∈ xs, (ok30 y)) := Y2Y Try.underlying22 (by kernel_rfl) (by kernel_rfl) ops30
def ok24 (x : S24) : Prop := (okI x.f0) ∧ (x.f1.length ≤ maxLen ∧ x.f1.length * 104 ≤ 140737488351232 ∧ ∀ y ∈ x.f1, (ok30 y))
theorem ops24 : Opens Try.prog 24 k24 ok24 := Y1o Try.underlying24 (by kernel_rfl) (YM rfl ops3 (Y1y rfl ops22)) (fun x : S24 => (x.f0, x.f1)) (fun a => ⟨a.1, a.2⟩) (fun _ => rfl)
set_option maxRecDepth 100000 in
theorem lifted (os : Os) (started : os.Started) (H : Type) (enc : TypeId × Value → H) :
    ReturnsInHanded {} Try.checked os 8 .any (Rows.replicaTakenSpec.pre6 enc Try.prog Try.f8 Rows.replicaTakenRow.domain false) (Rows.replicaTakenSpec.post enc Try.prog Try.f8 false true false false) := by
  refine returnsInHanded_of_change_sized (C := Try.checked) own started (by kernel_rfl) Try.func8
    (ChangeSpec.witness6 (enc := enc) (C := Try.checked) false ⟨#[], #[.agg #[.int .i64 0, .slice none 0 0], .int .i64 0, .int .i64 0], []⟩ 8 (by kernel_rfl) (by kernel_rfl) (by kernel_rfl) (by kernel_rfl)) ?_
  intro W base args ds gs before hval0 hW hcnd hsz0 _
  have hsz : (DataW.weightsEach Try.prog (Try.f8.params.toList ++ Rows.replicaTakenSpec.plain.varTypes Try.prog) (ds ++ gs)).all (· ≤ reachBytes) = true := hsz0
  have hval : ∀ (j : Nat) t v, Try.f8.params[j]? = some t → args[j]? = some v → Value.okWide Try.prog W .any base t v := hval0
  have hW' := hW
  obtain ⟨p, q, hA0, hV, rfl, hfz, hnd⟩ := hW
  have hA : DataW.TrodAll enc Try.prog W 0 (fun _ => true) true Try.f8.params.toList args.toList ds p := hA0
  rw [Try.params8] at hA hval hsz
  obtain ⟨v0, vs0, d0, ds0, p0, q0, hargs, rfl, rfl, h0, r0⟩ := trodAll_cons hA
  obtain ⟨v1, vs1, d1, ds1, p1, q1, rfl, rfl, rfl, h1, r1⟩ := trodAll_cons r0
  obtain ⟨v2, vs2, d2, ds2, p2, q2, rfl, rfl, rfl, h2, r2⟩ := trodAll_cons r1
  obtain ⟨rfl, rfl, rfl⟩ := trodAll_nil r2
  obtain rfl : args = #[v0, v1, v2] := by cases args; simp_all
  obtain ⟨rfl, rfl⟩ := trodVars_none hV
  have k0 := h0
  have lt0 : ∀ x ∈ p0, x.block < W.heap.size := by obtain ⟨m, hm⟩ := k0; exact DataW.trod_lt m _ _ _ hm
  obtain ⟨s0, cs0, rfl, kk0, o0⟩ := Y2J (j := 0) ops24 Try.underlying24 (hval 0 24 v0 rfl rfl) hsz rfl rfl h0
  obtain ⟨_, _, hcs0, rfl, ⟨A0_1, c0_1, rfl, hc0_1, hr0_1⟩⟩ := kk0
  obtain rfl : cs0 = #[.int .i64 s0.f0, .slice A0_1 s0.f1.length c0_1] := by apply Array.toList_inj.1; rw [hcs0]; rfl
  obtain ⟨a1, rfl, rfl, rfl, w1⟩ := open_int Try.underlying3 (hval 1 3 v1 rfl rfl) h1
  obtain ⟨a2, rfl, rfl, rfl, w2⟩ := open_int Try.underlying3 (hval 2 3 v2 rfl rfl) h2
  clear hA0 hval0 hsz0 hsz
  obtain ⟨k, hk⟩ := Pure.ReplicaTaken s0.f0 s0.f1 a1 a2 (o0.1) (o0.2) (bounds_i64 w1) (bounds_i64 w2)
  refine (Ya.calls k s0.f0 _ _ s0.f1 a1 a2 true W hr0_1 hc0_1 hk).mono fun e W' ⟨he, bel⟩ => ?_
  subst he
  exact ⟨_, rfl, _, _, _, [], _, [], hW', trodAll_mk1 (shut_bool Try.underlying4 _), (trodAll_cons_mk (Below.trod laidOut (by kernel_rfl) (of_decide_eq_true (by kernel_rfl)) k0 bel lt0) (trodAll_cons_mk (shut_int Try.underlying3 w1) (trodAll_cons_mk (shut_int Try.underlying3 w2) trodAll_mk0))), rfl, bel.frame _, fun h => by cases h⟩
theorem andI {a b : Bool} (h : a = true) (k : b = true) : (a && b) = true := by rw [h, k]; rfl
set_option maxHeartbeats 40000000 in
theorem closed : joinedFacts Try.prog 8 Try.f8 Rows.replicaTakenSpec Rows.replicaTakenRow = true := by
  unfold joinedFacts
  repeat' (with_reducible refine andI ?_ ?_)
  all_goals as_aux_lemma => kernel_rfl
theorem over : Rows.replicaTakenRow.holds Try.pinned (OpenSpec.ofChange Rows.replicaTakenSpec) :=
  OpenClaim.holds_of_wide 8 Try.f8 rfl rfl rfl rfl rfl rfl rfl ⟨rfl, rfl, rfl, rfl, rfl⟩ rfl rfl rfl rfl rfl (by kernel_rfl) Try.func8 closed
    (of_decide_eq_true (by kernel_rfl)) (by unfold Func.isWrapper; first | (rw [if_pos (by decide +kernel)]; kernel_rfl) | (rw [if_neg (by decide +kernel)]; exact ⟨rfl, rfl⟩))
    (fun os started H enc _ => lifted os started H enc)
theorem proved : Rows.ReplicaTakenSaid := over
#print axioms proved
end Go.Proofs.Yteopkkoblbmggaa.replicaTaken
namespace Go.Proofs.Yteopkkoblbmggaa
theorem replicaTaken_holds : Rows.ReplicaTakenSaid := replicaTaken.proved
end Go.Proofs.Yteopkkoblbmggaa

import Derived.Test.YteopkkoblbmggaaGreatRows
import Derived.Test.YteopkkoblbmggaaGreatQZAZ
import Derived.Test.YteopkkoblbmggaaGreatQZBA
import Derived.WalkKit
import Derived.ProofKit
import Derived.OpenShut
import Derived.ShutString
import Derived.ChangeOld
import Derived.Below
import Derived.SizedLaws
import Derived.Carry
namespace Go.Proofs.YteopkkoblbmggaaGreat.replicaMerge
open Go.ChangeShapes Go.WideShapes Go.ChangeAt Go.RowKit Go.Proofs.YteopkkoblbmggaaGreatW.PrintWords Go.Proofs.YteopkkoblbmggaaGreat.Open Go.Proofs.YteopkkoblbmggaaGreat.P
open Go.ChangeMaps (open_string shut_string)
set_option linter.unusedVariables false
theorem own : ownKnob Tryz.prog.godebug = none := by kernel_rfl
theorem laidOut : laidOutB Tryz.prog = true := by kernel_rfl
theorem ops3 : Opens Tryz.prog 3 (Kd.int .i64) okI := Y4P Tryz.underlying3 (by kernel_rfl)
def ok46 (x : S46) : Prop := (okI x.f0) ∧ (okI x.f1)
theorem ops46 : Opens Tryz.prog 46 k46 ok46 := Y1U Tryz.underlying46 (by kernel_rfl) (Y1s rfl ops3 (Y27 rfl ops3)) (fun x : S46 => (x.f0, x.f1)) (fun a => ⟨a.1, a.2⟩) (fun _ => rfl)
theorem ops4 : Opens Tryz.prog 4 Kd.bool (fun _ => True) := Y4b Tryz.underlying4 (by kernel_rfl)
def ok42 (x : S42) : Prop := (okI x.f0) ∧ (okI x.f1) ∧ (okI x.f2) ∧ (okI x.f3) ∧ (okI x.f4) ∧ (okI x.f5) ∧ (okI x.f6)
theorem ops42 : Opens Tryz.prog 42 k42 ok42 := Y1U Tryz.underlying42 (by kernel_rfl) (Y1s rfl ops3 (Y1s rfl ops3 (Y1s rfl ops3 (Y1s rfl ops3 (Y1s rfl ops3 (Y1s rfl ops3 (Y27 rfl ops3))))))) (fun x : S42 => (x.f0, x.f1, x.f2, x.f3, x.f4, x.f5, x.f6)) (fun a => ⟨a.1, a.2.1, a.2.2.1, a.2.2.2.1, a.2.2.2.2.1, a.2.2.2.2.2.1, a.2.2.2.2.2.2⟩) (fun _ => rfl)
def ok52 (x : S52) : Prop := (ok46 x.f0) ∧ (okI x.f1) ∧ (ok46 x.f2) ∧ (True) ∧ (ok42 x.f4)
theorem ops52 : Opens Tryz.prog 52 k52 ok52 := Y1U Tryz.underlying52 (by kernel_rfl) (Y1s rfl ops46 (Y1s rfl ops3 (Y1s rfl ops46 (Y1s rfl ops4 (Y27 rfl ops42))))) (fun x : S52 => (x.f0, x.f1, x.f2, x.f3, x.f4)) (fun a => ⟨a.1, a.2.1, a.2.2.1, a.2.2.2.1, a.2.2.2.2⟩) (fun _ => rfl)
theorem ops22 : Opens Tryz.prog 22 (Kd.slice 52 k52) (fun xs => xs.length ≤ maxLen ∧ xs.length * 104 ≤ 140737488351232 ∧ ∀ y ∈ xs, (ok52 y)) := Y3C Tryz.underlying22 (by kernel_rfl) (by kernel_rfl) ops52
def ok24 (x : S24) : Prop := (okI x.f0) ∧ (x.f1.length ≤ maxLen ∧ x.f1.length * 104 ≤ 140737488351232 ∧ ∀ y ∈ x.f1, (ok52 y))
theorem ops24 : Opens Tryz.prog 24 k24 ok24 := Y1U Tryz.underlying24 (by kernel_rfl) (Y1s rfl ops3 (Y27 rfl ops22)) (fun x : S24 => (x.f0, x.f1)) (fun a => ⟨a.1, a.2⟩) (fun _ => rfl)
set_option maxRecDepth 100000 in
theorem lifted (os : Os) (started : os.Started) (H : Type) (enc : TypeId × Value → H) :
    ReturnsInHanded {} Tryz.checked os 3 .any (Rows.replicaMergeSpec.pre6 enc Tryz.prog Tryz.f3 Rows.replicaMergeRow.domain false) (Rows.replicaMergeSpec.post enc Tryz.prog Tryz.f3 false true false false) := by
  refine returnsInHanded_of_change_sized (C := Tryz.checked) own started (by kernel_rfl) Tryz.func3
    (ChangeSpec.witness6 (enc := enc) (C := Tryz.checked) false ⟨#[], #[.agg #[.int .i64 0, .slice none 0 0], .agg #[.int .i64 0, .slice none 0 0]], []⟩ 8 (by kernel_rfl) (by kernel_rfl) (by kernel_rfl) (by kernel_rfl)) ?_
  intro W base args ds gs before hval0 hW hcnd hsz0 _
  have hsz : (DataW.weightsEach Tryz.prog (Tryz.f3.params.toList ++ Rows.replicaMergeSpec.plain.varTypes Tryz.prog) (ds ++ gs)).all (· ≤ reachBytes) = true := hsz0
  have hval : ∀ (j : Nat) t v, Tryz.f3.params[j]? = some t → args[j]? = some v → Value.okWide Tryz.prog W .any base t v := hval0
  have hW' := hW
  obtain ⟨p, q, hA0, hV, rfl, hfz, hnd⟩ := hW
  have hA : DataW.TrodAll enc Tryz.prog W 0 (fun _ => true) true Tryz.f3.params.toList args.toList ds p := hA0
  rw [Tryz.params3] at hA hval hsz
  obtain ⟨v0, vs0, d0, ds0, p0, q0, hargs, rfl, rfl, h0, r0⟩ := trodAll_cons hA
  obtain ⟨v1, vs1, d1, ds1, p1, q1, rfl, rfl, rfl, h1, r1⟩ := trodAll_cons r0
  obtain ⟨rfl, rfl, rfl⟩ := trodAll_nil r1
  obtain rfl : args = #[v0, v1] := by cases args; simp_all
  obtain ⟨rfl, rfl⟩ := trodVars_none hV
  have k0 := h0
  have lt0 : ∀ x ∈ p0, x.block < W.heap.size := by obtain ⟨m, hm⟩ := k0; exact DataW.trod_lt m _ _ _ hm
  obtain ⟨s0, cs0, rfl, kk0, o0⟩ := Y3W (j := 0) ops24 Tryz.underlying24 (hval 0 24 v0 rfl rfl) hsz rfl rfl h0
  obtain ⟨_, _, hcs0, rfl, ⟨A0_1, c0_1, rfl, hc0_1, hr0_1⟩⟩ := kk0
  obtain rfl : cs0 = #[.int .i64 s0.f0, .slice A0_1 s0.f1.length c0_1] := by apply Array.toList_inj.1; rw [hcs0]; rfl
  have k1 := h1
  have lt1 : ∀ x ∈ p1, x.block < W.heap.size := by obtain ⟨m, hm⟩ := k1; exact DataW.trod_lt m _ _ _ hm
  obtain ⟨s1, cs1, rfl, kk1, o1⟩ := Y3W (j := 1) ops24 Tryz.underlying24 (hval 1 24 v1 rfl rfl) hsz rfl rfl h1
  obtain ⟨_, _, hcs1, rfl, ⟨A1_1, c1_1, rfl, hc1_1, hr1_1⟩⟩ := kk1
  obtain rfl : cs1 = #[.int .i64 s1.f0, .slice A1_1 s1.f1.length c1_1] := by apply Array.toList_inj.1; rw [hcs1]; rfl
  clear hA0 hval0 hsz0 hsz
  obtain ⟨k, hk⟩ := Pure.ReplicaMerge s0.f0 s0.f1 s1.f0 s1.f1 (o0.1) (o0.2) (o1.1) (o1.2)
  refine (YG.calls k s0.f0 _ _ s0.f1 s1.f0 _ _ s1.f1 true W hr0_1 hc0_1 hr1_1 hc1_1 hk).mono fun e W' ⟨he, bel⟩ => ?_
  subst he
  exact ⟨_, rfl, _, _, _, [], _, [], hW', trodAll_mk1 (shut_bool Tryz.underlying4 _), (trodAll_cons_mk (Below.trod laidOut (by kernel_rfl) (of_decide_eq_true (by kernel_rfl)) k0 bel lt0) (trodAll_cons_mk (Below.trod laidOut (by kernel_rfl) (of_decide_eq_true (by kernel_rfl)) k1 bel lt1) trodAll_mk0)), rfl, bel.frame _, fun h => by cases h⟩
theorem andI {a b : Bool} (h : a = true) (k : b = true) : (a && b) = true := by rw [h, k]; rfl
set_option maxHeartbeats 40000000 in
theorem closed : joinedFacts Tryz.prog 3 Tryz.f3 Rows.replicaMergeSpec Rows.replicaMergeRow = true := by
  unfold joinedFacts
  repeat' (with_reducible refine andI ?_ ?_)
  all_goals as_aux_lemma => kernel_rfl
theorem over : Rows.replicaMergeRow.holds Tryz.pinned (OpenSpec.ofChange Rows.replicaMergeSpec) :=
  OpenClaim.holds_of_wide 3 Tryz.f3 rfl rfl rfl rfl rfl rfl rfl ⟨rfl, rfl, rfl, rfl, rfl⟩ rfl rfl rfl rfl rfl (by kernel_rfl) Tryz.func3 closed
    (of_decide_eq_true (by kernel_rfl)) (by unfold Func.isWrapper; first | (rw [if_pos (by decide +kernel)]; kernel_rfl) | (rw [if_neg (by decide +kernel)]; exact ⟨rfl, rfl⟩))
    (fun os started H enc _ => lifted os started H enc)
theorem proved : Rows.ReplicaMergeSaid := over
#print axioms proved
end Go.Proofs.YteopkkoblbmggaaGreat.replicaMerge
namespace Go.Proofs.YteopkkoblbmggaaGreat
theorem replicaMerge_holds : Rows.ReplicaMergeSaid := replicaMerge.proved
end Go.Proofs.YteopkkoblbmggaaGreat

/- The law RepeatsValid, for every input: its row, out of what its call does (printed) and the plain statement Pure.RepeatsValid; no condition. -/
import Derived.Test.YtdilndbanhianaaRows
import Derived.Test.YtdilndbanhianaaP55
import Derived.Test.YtdilndbanhianaaPureRepeatsValid
import Derived.Test.YtdilndbanhianaaVOpen
import Derived.WalkKit
import Derived.ProofKit
import Derived.OpenShut
import Derived.ShutString
import Derived.ChangeOld
import Derived.Below
import Derived.SizedLaws
import Derived.Carry
namespace Go.Proofs.Ytdilndbanhianaa.repeatsValid
open Go.ChangeShapes Go.WideShapes Go.ChangeAt Go.RowKit Go.Proofs.YtdilndbanhianaaW.PrintWords Go.Proofs.Ytdilndbanhianaa.Open Go.Proofs.Ytdilndbanhianaa.P
open Go.ChangeMaps (open_string shut_string)
set_option linter.unusedVariables false
theorem own : ownKnob Try.prog.godebug = none := by kernel_rfl
theorem laidOut : laidOutB Try.prog = true := by kernel_rfl
theorem ops3 : Opens Try.prog 3 (Kd.int .i64) okI := opens_i64 Try.underlying3 (by kernel_rfl)
def ok29 (x : S29) : Prop := (okI x.f0) ∧ (okI x.f1) ∧ (okI x.f2) ∧ (okI x.f3) ∧ (okI x.f4) ∧ (okI x.f5) ∧ (okI x.f6)
theorem ops29 : Opens Try.prog 29 k29 ok29 := opens_struct Try.underlying29 (by kernel_rfl) (opensF_cons rfl ops3 (opensF_cons rfl ops3 (opensF_cons rfl ops3 (opensF_cons rfl ops3 (opensF_cons rfl ops3 (opensF_cons rfl ops3 (opensF_one rfl ops3))))))) (fun x : S29 => (x.f0, x.f1, x.f2, x.f3, x.f4, x.f5, x.f6)) (fun a => ⟨a.1, a.2.1, a.2.2.1, a.2.2.2.1, a.2.2.2.2.1, a.2.2.2.2.2.1, a.2.2.2.2.2.2⟩) (fun _ => rfl)
theorem ops22 : Opens Try.prog 22 (Kd.slice 29 k29) (fun xs => xs.length ≤ maxLen ∧ xs.length * 56 ≤ 140737488351232 ∧ ∀ y ∈ xs, (ok29 y)) := opens_slice Try.underlying22 (by kernel_rfl) (by kernel_rfl) ops29
def ok45 (x : S45) : Prop := (okI x.f0) ∧ (okI x.f1)
theorem ops45 : Opens Try.prog 45 k45 ok45 := opens_struct Try.underlying45 (by kernel_rfl) (opensF_cons rfl ops3 (opensF_one rfl ops3)) (fun x : S45 => (x.f0, x.f1)) (fun a => ⟨a.1, a.2⟩) (fun _ => rfl)
def ok61 (x : S61) : Prop := (ok45 x.f0) ∧ (okI x.f1)
theorem ops61 : Opens Try.prog 61 k61 ok61 := opens_struct Try.underlying61 (by kernel_rfl) (opensF_cons rfl ops45 (opensF_one rfl ops3)) (fun x : S61 => (x.f0, x.f1)) (fun a => ⟨a.1, a.2⟩) (fun _ => rfl)
theorem ops49 : Opens Try.prog 49 (Kd.slice 61 k61) (fun xs => xs.length ≤ maxLen ∧ xs.length * 24 ≤ 140737488351232 ∧ ∀ y ∈ xs, (ok61 y)) := opens_slice Try.underlying49 (by kernel_rfl) (by kernel_rfl) ops61
structure S51 where
  f0 : List S29
  f1 : Int
  f2 : List S61
def k51 : Kd S51 := Kd.iso (Kd.pair (Kd.slice 29 k29) (Kd.pair (Kd.int .i64) (Kd.slice 61 k61))) (fun x : S51 => (x.f0, x.f1, x.f2))
def ok51 (x : S51) : Prop := (x.f0.length ≤ maxLen ∧ x.f0.length * 56 ≤ 140737488351232 ∧ ∀ y ∈ x.f0, (ok29 y)) ∧ (okI x.f1) ∧ (x.f2.length ≤ maxLen ∧ x.f2.length * 24 ≤ 140737488351232 ∧ ∀ y ∈ x.f2, (ok61 y))
theorem ops51 : Opens Try.prog 51 k51 ok51 := opens_struct Try.underlying51 (by kernel_rfl) (opensF_cons rfl ops22 (opensF_cons rfl ops3 (opensF_one rfl ops49))) (fun x : S51 => (x.f0, x.f1, x.f2)) (fun a => ⟨a.1, a.2.1, a.2.2⟩) (fun _ => rfl)
set_option maxRecDepth 100000 in
theorem lifted (os : Os) (started : os.Started) (H : Type) (enc : TypeId × Value → H) :
    ReturnsInHanded {} Try.checked os 15 .any (Rows.repeatsValidSpec.pre6 enc Try.prog Try.f15 Rows.repeatsValidRow.domain false) (Rows.repeatsValidSpec.post enc Try.prog Try.f15 false true false false) := by
  refine returnsInHanded_of_change_sized (C := Try.checked) own started (by kernel_rfl) Try.func15
    (ChangeSpec.witness6 (enc := enc) (C := Try.checked) false ⟨#[], #[.agg #[.slice none 0 0, .int .i64 0, .slice none 0 0]], []⟩ 8 (by kernel_rfl) (by kernel_rfl) (by kernel_rfl) (by kernel_rfl)) ?_
  intro W base args ds gs before hval0 hW hcnd hsz0 _
  have hsz : (DataW.weightsEach Try.prog (Try.f15.params.toList ++ Rows.repeatsValidSpec.plain.varTypes Try.prog) (ds ++ gs)).all (· ≤ reachBytes) = true := hsz0
  have hval : ∀ (j : Nat) t v, Try.f15.params[j]? = some t → args[j]? = some v → Value.okWide Try.prog W .any base t v := hval0
  have hW' := hW
  obtain ⟨p, q, hA0, hV, rfl, hfz, hnd⟩ := hW
  have hA : DataW.TrodAll enc Try.prog W 0 (fun _ => true) true Try.f15.params.toList args.toList ds p := hA0
  rw [Try.params15] at hA hval hsz
  obtain ⟨v0, vs0, d0, ds0, p0, q0, hargs, rfl, rfl, h0, r0⟩ := trodAll_cons hA
  obtain ⟨rfl, rfl, rfl⟩ := trodAll_nil r0
  obtain rfl : args = #[v0] := by cases args; simp_all
  obtain ⟨rfl, rfl⟩ := trodVars_none hV
  have k0 := h0
  have lt0 : ∀ x ∈ p0, x.block < W.heap.size := by obtain ⟨m, hm⟩ := k0; exact DataW.trod_lt m _ _ _ hm
  obtain ⟨s0, cs0, rfl, kk0, o0⟩ := open_agg (j := 0) ops51 Try.underlying51 (hval 0 51 v0 rfl rfl) hsz rfl rfl h0
  obtain ⟨_, _, hcs0, ⟨A0_0, c0_0, rfl, hc0_0, hr0_0⟩, ⟨_, _, rfl, rfl, ⟨A0_2, c0_2, rfl, hc0_2, hr0_2⟩⟩⟩ := kk0
  obtain rfl : cs0 = #[.slice A0_0 s0.f0.length c0_0, .int .i64 s0.f1, .slice A0_2 s0.f2.length c0_2] := by apply Array.toList_inj.1; rw [hcs0]; rfl
  clear hA0 hval0 hsz0 hsz
  obtain ⟨k, hk⟩ := Pure.RepeatsValid s0.f0 s0.f1 s0.f2 (o0.1) (o0.2.1) (o0.2.2)
  refine (dancestudiolaw26_RepeatsValid.calls k _ _ s0.f0 s0.f1 _ _ s0.f2 true W hr0_0 hc0_0 hr0_2 hc0_2 hk).mono fun e W' ⟨he, bel⟩ => ?_
  subst he
  exact ⟨_, rfl, _, _, _, [], _, [], hW', trodAll_mk1 (shut_bool Try.underlying4 _), (trodAll_cons_mk (Below.trod laidOut (by kernel_rfl) (of_decide_eq_true (by kernel_rfl)) k0 bel lt0) trodAll_mk0), rfl, bel.frame _, fun h => by cases h⟩
theorem andI {a b : Bool} (h : a = true) (k : b = true) : (a && b) = true := by rw [h, k]; rfl
set_option maxHeartbeats 40000000 in
theorem closed : joinedFacts Try.prog 15 Try.f15 Rows.repeatsValidSpec Rows.repeatsValidRow = true := by
  unfold joinedFacts
  repeat' (with_reducible refine andI ?_ ?_)
  all_goals as_aux_lemma => kernel_rfl
theorem over : Rows.repeatsValidRow.holds Try.pinned (OpenSpec.ofChange Rows.repeatsValidSpec) :=
  OpenClaim.holds_of_wide 15 Try.f15 rfl rfl rfl rfl rfl rfl rfl ⟨rfl, rfl, rfl, rfl, rfl⟩ rfl rfl rfl rfl rfl (by kernel_rfl) Try.func15 closed
    (of_decide_eq_true (by kernel_rfl)) (by unfold Func.isWrapper; first | (rw [if_pos (by decide +kernel)]; kernel_rfl) | (rw [if_neg (by decide +kernel)]; exact ⟨rfl, rfl⟩))
    (fun os started H enc _ => lifted os started H enc)
theorem proved : Rows.RepeatsValidSaid := over
#print axioms proved
end Go.Proofs.Ytdilndbanhianaa.repeatsValid
namespace Go.Proofs.Ytdilndbanhianaa
/-- The row, under a short name, for the claim. -/
theorem repeatsValid_holds : Rows.RepeatsValidSaid := repeatsValid.proved
end Go.Proofs.Ytdilndbanhianaa

/- The law StaffReads, for every input: its row, out of what its call does (printed) and the plain statement Pure.StaffReads; no condition. -/
import Derived.Test.YtdilndbanhianaaRows
import Derived.Test.YtdilndbanhianaaReads
import Derived.Test.YtdilndbanhianaaPureStaffReads
import Derived.Test.YtdilndbanhianaaUOpen
import Derived.WalkKit
import Derived.ProofKit
import Derived.OpenShut
import Derived.ShutString
import Derived.ChangeOld
import Derived.Below
import Derived.SizedLaws
import Derived.Carry
namespace Go.Proofs.Ytdilndbanhianaa.staffReads
open Go.ChangeShapes Go.WideShapes Go.ChangeAt Go.RowKit Go.Proofs.YtdilndbanhianaaW.PrintWords Go.Proofs.Ytdilndbanhianaa.Open Go.Proofs.Ytdilndbanhianaa.P
open Go.ChangeMaps (open_string shut_string)
set_option linter.unusedVariables false
theorem own : ownKnob Try.prog.godebug = none := by kernel_rfl
theorem laidOut : laidOutB Try.prog = true := by kernel_rfl
theorem ops3 : Opens Try.prog 3 (Kd.int .i64) okI := opens_i64 Try.underlying3 (by kernel_rfl)
def ok29 (x : S29) : Prop := (okI x.f0) ∧ (okI x.f1) ∧ (okI x.f2) ∧ (okI x.f3) ∧ (okI x.f4) ∧ (okI x.f5) ∧ (okI x.f6)
theorem ops29 : Opens Try.prog 29 k29 ok29 := opens_struct Try.underlying29 (by kernel_rfl) (opensF_cons rfl ops3 (opensF_cons rfl ops3 (opensF_cons rfl ops3 (opensF_cons rfl ops3 (opensF_cons rfl ops3 (opensF_cons rfl ops3 (opensF_one rfl ops3))))))) (fun x : S29 => (x.f0, x.f1, x.f2, x.f3, x.f4, x.f5, x.f6)) (fun a => ⟨a.1, a.2.1, a.2.2.1, a.2.2.2.1, a.2.2.2.2.1, a.2.2.2.2.2.1, a.2.2.2.2.2.2⟩) (fun _ => rfl)
theorem ops22 : Opens Try.prog 22 (Kd.slice 29 k29) (fun xs => xs.length ≤ maxLen ∧ xs.length * 56 ≤ 140737488351232 ∧ ∀ y ∈ xs, (ok29 y)) := opens_slice Try.underlying22 (by kernel_rfl) (by kernel_rfl) ops29
theorem open_arr2 {H : Type} {enc : TypeId × Value → H} {P : Program} {W : World} {t e : TypeId} {v : Value} {dd : DataW H} {p : List MemPlace} {sp : Nat → Bool} {hd : Bool} {r : Reach} {b : Nat} (ht : P.underlying t = some (.array 2 e)) (he : P.underlying e = some (.int .i64)) (hce : P.cellsOf e = 1) (hct : P.cellsOf t = 2)
    (hv : Value.okWide P W r b t v) (h : DataW.Trod enc P W 0 sp hd t v dd p) : ∃ x y : Int, v = .agg #[.int .i64 x, .int .i64 y] ∧ okI x ∧ okI y := by
  simp only [Value.okWide, ht] at hv
  obtain ⟨cs, rfl, hcs, _⟩ := hv
  obtain ⟨fuel, hf⟩ := h
  obtain ⟨xs, m, _, _, hlen, hxl, hel⟩ := DataW.trod_array ht hf
  have h0 := hel 0 (by decide)
  have h1 := hel 1 (by decide)
  match xs, hxl with
  | [x0, x1], _ =>
    obtain ⟨a, e1, _, w1⟩ := DataW.trod_int he (show DataW.trod _ _ _ _ _ _ _ _ _ = some x0 from h0)
    obtain ⟨c, e2, _, w2⟩ := DataW.trod_int he (show DataW.trod _ _ _ _ _ _ _ _ _ = some x1 from h1)
    refine ⟨a, c, ?_, bounds_i64 w1, bounds_i64 w2⟩
    rw [hce] at e1 e2
    rw [show (Value.agg cs).cells = cs from rfl] at e1 e2
    have e1' : (cs.toList.drop 0).take 1 = [Value.int .i64 a] := by simpa using e1
    have e2' : (cs.toList.drop 1).take 1 = [Value.int .i64 c] := by simpa using e2
    have hl : cs.toList.length = 2 := by rw [Array.length_toList, hcs, hct]
    have : cs.toList = [Value.int .i64 a, Value.int .i64 c] := by
      match hq : cs.toList, hl with
      | [u, v], _ =>
        rw [hq] at e1' e2'
        simp at e1' e2'
        rw [e1', e2']
    congr 1
    exact Array.toList_inj.1 this
set_option maxRecDepth 100000 in
theorem lifted (os : Os) (started : os.Started) (H : Type) (enc : TypeId × Value → H) :
    ReturnsInHanded {} Try.checked os 5 .any (Rows.staffReadsSpec.pre6 enc Try.prog Try.f5 Rows.staffReadsRow.domain false) (Rows.staffReadsSpec.post enc Try.prog Try.f5 false true false false) := by
  refine returnsInHanded_of_change_sized (C := Try.checked) own started (by kernel_rfl) Try.func5
    (ChangeSpec.witness6 (enc := enc) (C := Try.checked) false ⟨#[], #[.slice none 0 0, .int .i64 0, .agg #[.int .i64 0, .int .i64 0]], []⟩ 8 (by kernel_rfl) (by kernel_rfl) (by kernel_rfl) (by kernel_rfl)) ?_
  intro W base args ds gs before hval0 hW hcnd hsz0 _
  have hsz : (DataW.weightsEach Try.prog (Try.f5.params.toList ++ Rows.staffReadsSpec.plain.varTypes Try.prog) (ds ++ gs)).all (· ≤ reachBytes) = true := hsz0
  have hval : ∀ (j : Nat) t v, Try.f5.params[j]? = some t → args[j]? = some v → Value.okWide Try.prog W .any base t v := hval0
  have hW' := hW
  obtain ⟨p, q, hA0, hV, rfl, hfz, hnd⟩ := hW
  have hA : DataW.TrodAll enc Try.prog W 0 (fun _ => true) true Try.f5.params.toList args.toList ds p := hA0
  rw [Try.params5] at hA hval hsz
  obtain ⟨v0, vs0, d0, ds0, p0, q0, hargs, rfl, rfl, h0, r0⟩ := trodAll_cons hA
  obtain ⟨v1, vs1, d1, ds1, p1, q1, rfl, rfl, rfl, h1, r1⟩ := trodAll_cons r0
  obtain ⟨v2, vs2, d2, ds2, p2, q2, rfl, rfl, rfl, h2, r2⟩ := trodAll_cons r1
  obtain ⟨rfl, rfl, rfl⟩ := trodAll_nil r2
  obtain rfl : args = #[v0, v1, v2] := by cases args; simp_all
  obtain ⟨rfl, rfl⟩ := trodVars_none hV
  have k0 := h0
  have lt0 : ∀ x ∈ p0, x.block < W.heap.size := by obtain ⟨m, hm⟩ := k0; exact DataW.trod_lt m _ _ _ hm
  obtain ⟨l0, A0, c0, rfl, hc0, hr0, o0⟩ := open_row (j := 0) ops22 Try.underlying22 (hval 0 22 v0 rfl rfl) hsz rfl rfl h0
  obtain ⟨a1, rfl, rfl, rfl, w1⟩ := open_int Try.underlying3 (hval 1 3 v1 rfl rfl) h1
  have k2 := h2
  have lt2 : ∀ x ∈ p2, x.block < W.heap.size := by obtain ⟨m, hm⟩ := k2; exact DataW.trod_lt m _ _ _ hm
  obtain ⟨s20, s21, rfl, o20, o21⟩ := open_arr2 Try.underlying35 Try.underlying3 (by kernel_rfl) (by kernel_rfl) (hval 2 35 v2 rfl rfl) h2
  clear hA0 hval0 hsz0 hsz
  obtain ⟨k, hk⟩ := Pure.StaffReads l0 a1 s20 s21 o0 (bounds_i64 w1) o20 o21
  refine (dancestudiolaw24_StaffReads.calls k _ _ l0 a1 s20 s21 true W hr0 hc0 hk).mono fun e W' ⟨he, bel⟩ => ?_
  subst he
  exact ⟨_, rfl, _, _, _, [], _, [], hW', trodAll_mk1 (shut_bool Try.underlying4 _), (trodAll_cons_mk (Below.trod laidOut (by kernel_rfl) (of_decide_eq_true (by kernel_rfl)) k0 bel lt0) (trodAll_cons_mk (shut_int Try.underlying3 w1) (trodAll_cons_mk (Below.trod laidOut (by kernel_rfl) (of_decide_eq_true (by kernel_rfl)) k2 bel lt2) trodAll_mk0))), rfl, bel.frame _, fun h => by cases h⟩
theorem andI {a b : Bool} (h : a = true) (k : b = true) : (a && b) = true := by rw [h, k]; rfl
set_option maxHeartbeats 40000000 in
theorem closed : joinedFacts Try.prog 5 Try.f5 Rows.staffReadsSpec Rows.staffReadsRow = true := by
  unfold joinedFacts
  repeat' (with_reducible refine andI ?_ ?_)
  all_goals as_aux_lemma => kernel_rfl
theorem over : Rows.staffReadsRow.holds Try.pinned (OpenSpec.ofChange Rows.staffReadsSpec) :=
  OpenClaim.holds_of_wide 5 Try.f5 rfl rfl rfl rfl rfl rfl rfl ⟨rfl, rfl, rfl, rfl, rfl⟩ rfl rfl rfl rfl rfl (by kernel_rfl) Try.func5 closed
    (of_decide_eq_true (by kernel_rfl)) (by unfold Func.isWrapper; first | (rw [if_pos (by decide +kernel)]; kernel_rfl) | (rw [if_neg (by decide +kernel)]; exact ⟨rfl, rfl⟩))
    (fun os started H enc _ => lifted os started H enc)
theorem proved : Rows.StaffReadsSaid := over
#print axioms proved
end Go.Proofs.Ytdilndbanhianaa.staffReads
namespace Go.Proofs.Ytdilndbanhianaa
/-- The row, under a short name, for the claim. -/
theorem staffReads_holds : Rows.StaffReadsSaid := staffReads.proved
end Go.Proofs.Ytdilndbanhianaa

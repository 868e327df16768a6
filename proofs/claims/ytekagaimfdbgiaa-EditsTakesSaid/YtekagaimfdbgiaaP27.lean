-- Written by a program of this session (myprint.py over the kit's print): the Go functions of the seat as Lean functions, and what their calls do.
import Derived.Test.YtekagaimfdbgiaaP0
import Derived.Test.YtekagaimfdbgiaaP3
import Derived.Test.YtekagaimfdbgiaaP22
import Derived.Test.YtekagaimfdbgiaaRTake
import Derived.Test.YtekagaimfdbgiaaTake
namespace Go.Proofs.Ytekagaimfdbgiaa.P
open Go.RowKit Go.Proofs.YtekagaimfdbgiaaW.PrintWords Go.Proofs.YtekagaimfdbgiaaW.PrintLast Go.Proofs.YtekagaimfdbgiaaW.PrintMore
attribute [local go_sem] max2_int min2_int max_two min_two max_three min_three max_four min_four   -- for this text's walks alone
set_option linter.unusedVariables false
set_option linter.unusedSimpArgs false

attribute [local go_sem high] eqA27
/-! ### dancestudiolaw56_EditsTakes: function 4 -/
def dancestudiolaw56_EditsTakes.f (k : Nat) (l0 : List Int) : Option (Bool) := (edits_Take.f k l0).bind fun bt368 => ((dancestudioref56_Take.f k l0).bind fun bt383 => (if ((bt368.1 == bt383.1 && (bt368.2.1 == bt383.2.1)) && (bt368.2.2.1 == bt383.2.2.1 && ((bt368.2.2.2.1 == bt383.2.2.2.1 && (bt368.2.2.2.2.1 == bt383.2.2.2.2.1)) && (bt368.2.2.2.2.2.1 == bt383.2.2.2.2.2.1 && ((bt368.2.2.2.2.2.2.1 == bt383.2.2.2.2.2.2.1 && (bt368.2.2.2.2.2.2.2.1 == bt383.2.2.2.2.2.2.2.1 && (bt368.2.2.2.2.2.2.2.2.1 == bt383.2.2.2.2.2.2.2.2.1 && (bt368.2.2.2.2.2.2.2.2.2.1 == bt383.2.2.2.2.2.2.2.2.2.1 && (bt368.2.2.2.2.2.2.2.2.2.2.1 == bt383.2.2.2.2.2.2.2.2.2.2.1 && (bt368.2.2.2.2.2.2.2.2.2.2.2.1 == bt383.2.2.2.2.2.2.2.2.2.2.2.1 && (bt368.2.2.2.2.2.2.2.2.2.2.2.2.1 == bt383.2.2.2.2.2.2.2.2.2.2.2.2.1)))))))))))) = true then (if bt368.2.2.2.2.2.2.2.2.2.2.2.2.2 = bt383.2.2.2.2.2.2.2.2.2.2.2.2.2 then ((dancestudiolaw56_awake.f k).bind fun t398 => (some t398)) else (none)) else (none)))
theorem dancestudiolaw56_EditsTakes.mono : ∀ a0 k, LeO (dancestudiolaw56_EditsTakes.f k a0) (dancestudiolaw56_EditsTakes.f (k + 1) a0) := by
  intro a0 k
  unfold dancestudiolaw56_EditsTakes.f
  repeat' first
      | (with_reducible exact dancestudiolaw56_awake.mono _)
      | (with_reducible exact dancestudioref56_Take.mono _ _)
      | (with_reducible exact edits_Take.mono _ _)
      | (with_reducible exact LeO.refl _)
      | (with_reducible exact LeO.none _)
      | (with_reducible refine LeO.ite ?_ ?_)
      | (with_reducible refine LeO.bind ?_ (fun _ => ?_))
      | exact dancestudiolaw56_awake.mono _
      | exact dancestudioref56_Take.mono _ _
      | exact edits_Take.mono _ _
      | exact LeO.none _
      | refine LeO.ite ?_ ?_
      | refine LeO.bind ?_ (fun _ => ?_)
set_option maxHeartbeats 8000000 in
set_option maxRecDepth 100000 in
theorem dancestudiolaw56_EditsTakes.calls (k : Nat) (A0 : Option Addr) (c0 : Nat) (l0 : List Int) (r : Bool) (w : World) (hr0 : Kd.C (Kd.int .u8) w A0 l0.length l0) (hc0 : l0.length ≤ c0) (h : dancestudiolaw56_EditsTakes.f k l0 = some r) :
    Calls Try.prog 4 #[.slice A0 l0.length c0] w fun e w' => e = .returned (.bool r) ∧ Below w.heap.size w w' := by
  have hu27 := Try.underlying27
  have HR0 := Aside0.mk hr0
  have HC0 := Aside0.mk hc0
  clear hr0 hc0
  have HB := Aside0.mk (Below.refl w.heap.size w)
  have H : ((edits_Take.f k l0).bind fun bt368 => ((dancestudioref56_Take.f k l0).bind fun bt383 => (if ((bt368.1 == bt383.1 && (bt368.2.1 == bt383.2.1)) && (bt368.2.2.1 == bt383.2.2.1 && ((bt368.2.2.2.1 == bt383.2.2.2.1 && (bt368.2.2.2.2.1 == bt383.2.2.2.2.1)) && (bt368.2.2.2.2.2.1 == bt383.2.2.2.2.2.1 && ((bt368.2.2.2.2.2.2.1 == bt383.2.2.2.2.2.2.1 && (bt368.2.2.2.2.2.2.2.1 == bt383.2.2.2.2.2.2.2.1 && (bt368.2.2.2.2.2.2.2.2.1 == bt383.2.2.2.2.2.2.2.2.1 && (bt368.2.2.2.2.2.2.2.2.2.1 == bt383.2.2.2.2.2.2.2.2.2.1 && (bt368.2.2.2.2.2.2.2.2.2.2.1 == bt383.2.2.2.2.2.2.2.2.2.2.1 && (bt368.2.2.2.2.2.2.2.2.2.2.2.1 == bt383.2.2.2.2.2.2.2.2.2.2.2.1 && (bt368.2.2.2.2.2.2.2.2.2.2.2.2.1 == bt383.2.2.2.2.2.2.2.2.2.2.2.2.1)))))))))))) = true then (if bt368.2.2.2.2.2.2.2.2.2.2.2.2.2 = bt383.2.2.2.2.2.2.2.2.2.2.2.2.2 then ((dancestudiolaw56_awake.f k).bind fun t398 => (some t398)) else (none)) else (none)))) = some r := h
  clear h
  replace H := Option.bind_eq_some_iff.mp H
  obtain ⟨⟨t368, t369, t370, t371, t372, t373, t374, t375, t376, t377, t378, t379, t380, t381⟩, A20, H⟩ := H
  try dsimp only at H
  have A2 := Aside0.mk A20
  clear A20
  replace H := Option.bind_eq_some_iff.mp H
  obtain ⟨⟨t383, t384, t385, t386, t387, t388, t389, t390, t391, t392, t393, t394, t395, t396⟩, A30, H⟩ := H
  try dsimp only at H
  have A3 := Aside0.mk A30
  clear A30
  by_cases c4 : ((t368 == t383 && (t369 == t384)) && (t370 == t385 && ((t371 == t386 && (t372 == t387)) && (t373 == t388 && ((t374 == t389 && (t375 == t390 && (t376 == t391 && (t377 == t392 && (t378 == t393 && (t379 == t394 && (t380 == t395)))))))))))) = true
  · rw [if_pos c4] at H
    have c4b0 : ((t368 == t383 && (t369 == t384)) && (t370 == t385 && ((t371 == t386 && (t372 == t387)) && (t373 == t388 && ((t374 == t389 && (t375 == t390 && (t376 == t391 && (t377 == t392 && (t378 == t393 && (t379 == t394 && (t380 == t395)))))))))))) = true := c4
    clear c4
    by_cases c5 : t381 = t396
    · rw [if_pos c5] at H
      have c5b0 : (t381 == t396) = true := beq_iff_eq.mpr c5
      have c5b1 : (t381 != t396) = false := bne_eq_false_iff_eq.mpr c5
      clear c5
      replace H := Option.bind_eq_some_iff.mp H
      obtain ⟨t398, A60, H⟩ := H
      replace H : (some t398) = some r := H
      have A6 := Aside0.mk A60
      clear A60
      obtain rfl := Option.some.inj H
      go_enter Try.func4, Try.ntmps4
      go_wp2_with (first | ((with_reducible refine gate_callee (f := 17) rfl ?_); refine goesL_ (some 9) rfl rfl Try.func17 (by kernel_rfl) rfl #[.slice A0 l0.length c0] rfl (by (try simp only [List.map_toArray, List.map_cons, List.map_nil]); first | done | rfl | (simp only [List.length_drop, List.length_take]; rfl)) ?_; (with_reducible refine (edits_Take.calls k _ _ l0 t368 t369 t370 t371 t372 t373 t374 t375 t376 t377 t378 t379 t380 t381 _ ?side1 ?side2 A2.out).mono ?_); (case side1 => repeat (first | exact HR0.out | (with_reducible refine Kd.C_alloc ?_ _) | (with_reducible refine Kd.C_drewN ?_ _) | (with_reducible refine Kd.C_drew ?_))); (case side2 => exact HC0.out); rintro e w7 ⟨rfl, hb⟩; refine ⟨_, rfl, ?_⟩; have n0_ := Aside0.mk (below_step (hU HB.out) hb); clear HB; have HB := n0_; clear n0_; (try clear hb); (try clear hb2); (try clear hk); (try clear hi)) | ((with_reducible refine gate_dst (N := 3) rfl ?_); refine box_event ?hg (N := 3) ?hd (cs := #[.int .i64 0, .int .i64 0, .int .i64 0, .int .i64 0, .int .i64 0, .bool false, .int .i64 0, .int .i64 0, .int .i64 0, .int .i64 0, .int .i64 0, .int .i64 0, .int .i64 0]) (t := 27) ?hr ?_; (case hd => rfl); (case hg => rfl); (case hr => first | (go_simp; done) | (go_simp; rfl)); intro gb382 hg w8 hbox hb; have n0_ := Aside0.mk (below_step (hU HB.out) hb); have n1_ := Aside0.mk (hbox); have n2_ := Aside0.mk ((by rw [hg]; exact (below_size (hU HB.out)) : w.heap.size ≤ gb382)); have n3_ := Aside0.mk ((by rw [hg]; exact (below_size (hU HB.out)) : w.heap.size ≤ gb382)); clear HB; have HB := n0_; have BK382 := n1_; have GW382 := n2_; have GE382 := n3_; clear n0_ n1_ n2_ n3_; clear hb hbox hg; have hcz9_0 := blk_cell BK382.out; have hfz9_0 := blk_frozen BK382.out) | ((with_reducible refine gate_callee (f := 18) rfl ?_); refine goesL_ (some 14) rfl rfl Try.func18 (by kernel_rfl) rfl #[.slice A0 l0.length c0] rfl (by (try simp only [List.map_toArray, List.map_cons, List.map_nil]); first | done | rfl | (simp only [List.length_drop, List.length_take]; rfl)) ?_; (with_reducible refine (dancestudioref56_Take.calls k _ _ l0 t383 t384 t385 t386 t387 t388 t389 t390 t391 t392 t393 t394 t395 t396 _ ?side1 ?side2 A3.out).mono ?_); (case side1 => exact Kd.C_below HR0.out (hU HB.out)); (case side2 => exact HC0.out); rintro e w10 ⟨rfl, hb⟩; refine ⟨_, rfl, ?_⟩; have n0_ := Aside0.mk (blk_below (g := gb382) (o := .cells #[.int .i64 t368, .int .i64 t369, .int .i64 t370, .int .i64 t371, .int .i64 t372, .bool t373, .int .i64 t374, .int .i64 t375, .int .i64 t376, .int .i64 t377, .int .i64 t378, .int .i64 t379, .int .i64 t380] 27 (0, 0)) (by (with_reducible repeat (first | refine blk_drewN ?_ _ | refine blk_drew ?_ | refine blk_alloc ?_ _)); apply blk_put; (iterate 12 ((with_reducible repeat (first | refine blk_drewN ?_ _ | refine blk_drew ?_ | refine blk_alloc ?_ _)); apply blk_set)); (with_reducible repeat (first | refine blk_drewN ?_ _ | refine blk_drew ?_ | refine blk_alloc ?_ _)); exact BK382.out; simp only [List.setIfInBounds_toArray, List.set_cons_zero, List.set_cons_succ]) hb); have n1_ := Aside0.mk (below_step (hU HB.out) hb); clear BK382; clear HB; have BK382 := n0_; have HB := n1_; clear n0_ n1_; (try clear hb); (try clear hb2); (try clear hk); (try clear hi)) | ((with_reducible refine gate_dst (N := 5) rfl ?_); refine box_event ?hg (N := 5) ?hd (cs := #[.int .i64 0, .int .i64 0, .int .i64 0, .int .i64 0, .int .i64 0, .bool false, .int .i64 0, .int .i64 0, .int .i64 0, .int .i64 0, .int .i64 0, .int .i64 0, .int .i64 0]) (t := 27) ?hr ?_; (case hd => rfl); (case hg => rfl); (case hr => first | (go_simp; done) | (go_simp; rfl)); intro gb397 hg w11 hbox hb; have n0_ := Aside0.mk (blk_below (bU BK382.out) hb); have n1_ := Aside0.mk (below_step (hU HB.out) hb); have n2_ := Aside0.mk (hbox); have n3_ := Aside0.mk ((by rw [hg]; exact (below_size (hU HB.out)) : w.heap.size ≤ gb397)); have n4_ := Aside0.mk ((by rw [hg]; exact (below_size (hU HB.out)) : w.heap.size ≤ gb397)); have n5_ := Aside0.mk ((by rw [hg]; exact Nat.ne_of_lt (blk_lt (bU BK382.out)) : gb382 ≠ gb397)); have n6_ := Aside0.mk ((by rw [hg]; exact Nat.ne_of_gt (blk_lt (bU BK382.out)) : gb397 ≠ gb382)); clear BK382; clear HB; have BK382 := n0_; have HB := n1_; have BK397 := n2_; have GW397 := n3_; have GE397 := n4_; have NB382_397 := n5_; have NB397_382 := n6_; clear n0_ n1_ n2_ n3_ n4_ n5_ n6_; clear hb hbox hg; have hnb12 := NB397_382.out; have hnc12 := NB382_397.out; have hcz13_0 := blk_cell BK397.out; have hfz13_0 := blk_frozen BK397.out; have hcz14_0 := blk_cell BK382.out; have hfz14_0 := blk_frozen BK382.out) | (go_at_call 16; (with_reducible refine (dancestudiolaw56_awake.calls k  t398 _ A6.out).mono ?_); rintro e w15 ⟨rfl, hb⟩; have n0_ := Aside0.mk (blk_below (g := gb382) (o := .cells #[.int .i64 t368, .int .i64 t369, .int .i64 t370, .int .i64 t371, .int .i64 t372, .bool t373, .int .i64 t374, .int .i64 t375, .int .i64 t376, .int .i64 t377, .int .i64 t378, .int .i64 t379, .int .i64 t380] 27 (0, 0)) (by (iterate 13 ((with_reducible repeat (first | refine blk_drewN ?_ _ | refine blk_drew ?_ | refine blk_alloc ?_ _)); refine blk_far ?_ NB382_397.out _)); (with_reducible repeat (first | refine blk_drewN ?_ _ | refine blk_drew ?_ | refine blk_alloc ?_ _)); exact BK382.out) hb); have n1_ := Aside0.mk (blk_below (g := gb397) (o := .cells #[.int .i64 t383, .int .i64 t384, .int .i64 t385, .int .i64 t386, .int .i64 t387, .bool t388, .int .i64 t389, .int .i64 t390, .int .i64 t391, .int .i64 t392, .int .i64 t393, .int .i64 t394, .int .i64 t395] 27 (0, 0)) (by (with_reducible repeat (first | refine blk_drewN ?_ _ | refine blk_drew ?_ | refine blk_alloc ?_ _)); apply blk_put; (iterate 12 ((with_reducible repeat (first | refine blk_drewN ?_ _ | refine blk_drew ?_ | refine blk_alloc ?_ _)); apply blk_set)); (with_reducible repeat (first | refine blk_drewN ?_ _ | refine blk_drew ?_ | refine blk_alloc ?_ _)); exact BK397.out; simp only [List.setIfInBounds_toArray, List.set_cons_zero, List.set_cons_succ]) hb); have n2_ := Aside0.mk (below_step (hU HB.out) hb); clear BK382; clear BK397; clear HB; have BK382 := n0_; have BK397 := n1_; have HB := n2_; clear n0_ n1_ n2_; (try clear hb); (try clear hb2); (try clear hk); (try clear hi)))
      go_ret
      exact ⟨by first | rfl | (simp [errW_none, errW_some] <;> rfl) | (simp [*, errW_none, errW_some] <;> rfl), hU HB.out⟩
    · rw [if_neg c5] at H
      exact absurd H (by simp)
  · rw [if_neg c4] at H
    exact absurd H (by simp)

end Go.Proofs.Ytekagaimfdbgiaa.P

-- Written by a program of this session (myprint.py over the kit's print): the Go functions of the seat as Lean functions, and what their calls do.
import Derived.Test.YtekagaimfdbgiaaP0
import Derived.Test.YtekagaimfdbgiaaP3
import Derived.Test.YtekagaimfdbgiaaP10
import Derived.Test.YtekagaimfdbgiaaP16
import Derived.Test.YtekagaimfdbgiaaP22
namespace Go.Proofs.Ytekagaimfdbgiaa.P
open Go.RowKit Go.Proofs.YtekagaimfdbgiaaW.PrintWords Go.Proofs.YtekagaimfdbgiaaW.PrintLast Go.Proofs.YtekagaimfdbgiaaW.PrintMore
attribute [local go_sem] max2_int min2_int max_two min_two max_three min_three max_four min_four   -- for this text's walks alone
set_option linter.unusedVariables false
set_option linter.unusedSimpArgs false

attribute [local go_sem high] eqA27
/-! ### dancestudiolaw56_EditsApart: function 10 -/
def dancestudiolaw56_EditsApart.f (k : Nat) (a0_0 : Int) (a0_1 : Int) (a0_2 : Int) (a0_3 : Int) (a0_4 : Int) (a0_5 : Bool) (a0_6 : Int) (a0_7 : Int) (a0_8 : Int) (a0_9 : Int) (a0_10 : Int) (a0_11 : Int) (a0_12 : Int) (a1_0 : Int) (a1_1 : Int) (a1_2 : Int) (a1_3 : Int) (a1_4 : Int) (a1_5 : Bool) (a1_6 : Int) (a1_7 : Int) (a1_8 : Int) (a1_9 : Int) (a1_10 : Int) (a1_11 : Int) (a1_12 : Int) : Option (Bool) := (edits_Put.f k a0_0 a0_1 a0_2 a0_3 a0_4 a0_5 a0_6 a0_7 a0_8 a0_9 a0_10 a0_11 a0_12).bind fun bt674 => ((edits_Put.f k a1_0 a1_1 a1_2 a1_3 a1_4 a1_5 a1_6 a1_7 a1_8 a1_9 a1_10 a1_11 a1_12).bind fun bt678 => (if bt674.2 = 0 then (if bt678.2 = 0 then ((dancestudioref07_Bytes.f bt674.1 bt678.1).bind fun t682 => (if (t682 == ((a0_0 == a1_0 && (a0_1 == a1_1)) && (a0_2 == a1_2 && ((a0_3 == a1_3 && (a0_4 == a1_4)) && (a0_5 == a1_5 && ((a0_6 == a1_6 && (a0_7 == a1_7 && (a0_8 == a1_8 && (a0_9 == a1_9 && (a0_10 == a1_10 && (a0_11 == a1_11 && (a0_12 == a1_12))))))))))))) = true then ((dancestudiolaw56_awake.f k).bind fun t683 => (some t683)) else (none))) else ((dancestudiolaw56_awake.f k).bind fun t684 => (some t684))) else ((dancestudiolaw56_awake.f k).bind fun t685 => (some t685))))
theorem dancestudiolaw56_EditsApart.mono : ∀ a0 a1 a2 a3 a4 a5 a6 a7 a8 a9 a10 a11 a12 a13 a14 a15 a16 a17 a18 a19 a20 a21 a22 a23 a24 a25 k, LeO (dancestudiolaw56_EditsApart.f k a0 a1 a2 a3 a4 a5 a6 a7 a8 a9 a10 a11 a12 a13 a14 a15 a16 a17 a18 a19 a20 a21 a22 a23 a24 a25) (dancestudiolaw56_EditsApart.f (k + 1) a0 a1 a2 a3 a4 a5 a6 a7 a8 a9 a10 a11 a12 a13 a14 a15 a16 a17 a18 a19 a20 a21 a22 a23 a24 a25) := by
  intro a0 a1 a2 a3 a4 a5 a6 a7 a8 a9 a10 a11 a12 a13 a14 a15 a16 a17 a18 a19 a20 a21 a22 a23 a24 a25 k
  unfold dancestudiolaw56_EditsApart.f
  repeat' first
      | (with_reducible exact dancestudiolaw56_awake.mono _)
      | (with_reducible exact edits_Put.mono _ _ _ _ _ _ _ _ _ _ _ _ _ _)
      | (with_reducible exact LeO.refl _)
      | (with_reducible exact LeO.none _)
      | (with_reducible refine LeO.ite ?_ ?_)
      | (with_reducible refine LeO.bind ?_ (fun _ => ?_))
      | exact dancestudiolaw56_awake.mono _
      | exact edits_Put.mono _ _ _ _ _ _ _ _ _ _ _ _ _ _
      | exact LeO.none _
      | refine LeO.ite ?_ ?_
      | refine LeO.bind ?_ (fun _ => ?_)
def dancestudiolaw56_EditsApart.T5 : Bool × List (List Nat × List Nat) := (true, [([], []), ([], []), ([0, 1], [0, 1]), ([], []), ([], []), ([3, 4], [3, 4]), ([2, 5], [2, 5]), ([6, 2], [6]), ([7, 7], [7]), ([7, 8], [7, 8]), ([9, 8, 0, 1, 2, 3, 4, 5, 6, 7, 8, 9], [9])])
def dancestudiolaw56_EditsApart.B5 : List Nat := [0, 0, 3, 0, 0, 24, 63, 127, 255, 511, 1023]
theorem dancestudiolaw56_EditsApart.tab5 : rtab .any (opsOf Try.f10 5) = dancestudiolaw56_EditsApart.T5 := by kernel_rfl
theorem dancestudiolaw56_EditsApart.bits5 : waitsOk dancestudiolaw56_EditsApart.T5.2 dancestudiolaw56_EditsApart.B5 = true := by kernel_rfl
set_option maxHeartbeats 8000000 in
set_option maxRecDepth 100000 in
theorem dancestudiolaw56_EditsApart.calls (k : Nat) (a0_0 : Int) (a0_1 : Int) (a0_2 : Int) (a0_3 : Int) (a0_4 : Int) (a0_5 : Bool) (a0_6 : Int) (a0_7 : Int) (a0_8 : Int) (a0_9 : Int) (a0_10 : Int) (a0_11 : Int) (a0_12 : Int) (a1_0 : Int) (a1_1 : Int) (a1_2 : Int) (a1_3 : Int) (a1_4 : Int) (a1_5 : Bool) (a1_6 : Int) (a1_7 : Int) (a1_8 : Int) (a1_9 : Int) (a1_10 : Int) (a1_11 : Int) (a1_12 : Int) (r : Bool) (w : World) (h : dancestudiolaw56_EditsApart.f k a0_0 a0_1 a0_2 a0_3 a0_4 a0_5 a0_6 a0_7 a0_8 a0_9 a0_10 a0_11 a0_12 a1_0 a1_1 a1_2 a1_3 a1_4 a1_5 a1_6 a1_7 a1_8 a1_9 a1_10 a1_11 a1_12 = some r) :
    Calls Try.prog 10 #[.agg #[.int .i64 a0_0, .int .i64 a0_1, .int .i64 a0_2, .int .i64 a0_3, .int .i64 a0_4, .bool a0_5, .int .i64 a0_6, .int .i64 a0_7, .int .i64 a0_8, .int .i64 a0_9, .int .i64 a0_10, .int .i64 a0_11, .int .i64 a0_12], .agg #[.int .i64 a1_0, .int .i64 a1_1, .int .i64 a1_2, .int .i64 a1_3, .int .i64 a1_4, .bool a1_5, .int .i64 a1_6, .int .i64 a1_7, .int .i64 a1_8, .int .i64 a1_9, .int .i64 a1_10, .int .i64 a1_11, .int .i64 a1_12]] w fun e w' => e = .returned (.bool r) ∧ Below w.heap.size w w' := by
  have hu27 := Try.underlying27
  have HB := Aside0.mk (Below.refl w.heap.size w)
  have H : ((edits_Put.f k a0_0 a0_1 a0_2 a0_3 a0_4 a0_5 a0_6 a0_7 a0_8 a0_9 a0_10 a0_11 a0_12).bind fun bt674 => ((edits_Put.f k a1_0 a1_1 a1_2 a1_3 a1_4 a1_5 a1_6 a1_7 a1_8 a1_9 a1_10 a1_11 a1_12).bind fun bt678 => (if bt674.2 = 0 then (if bt678.2 = 0 then ((dancestudioref07_Bytes.f bt674.1 bt678.1).bind fun t682 => (if (t682 == ((a0_0 == a1_0 && (a0_1 == a1_1)) && (a0_2 == a1_2 && ((a0_3 == a1_3 && (a0_4 == a1_4)) && (a0_5 == a1_5 && ((a0_6 == a1_6 && (a0_7 == a1_7 && (a0_8 == a1_8 && (a0_9 == a1_9 && (a0_10 == a1_10 && (a0_11 == a1_11 && (a0_12 == a1_12))))))))))))) = true then ((dancestudiolaw56_awake.f k).bind fun t683 => (some t683)) else (none))) else ((dancestudiolaw56_awake.f k).bind fun t684 => (some t684))) else ((dancestudiolaw56_awake.f k).bind fun t685 => (some t685))))) = some r := h
  clear h
  replace H := Option.bind_eq_some_iff.mp H
  obtain ⟨⟨t674, t677⟩, A30, H⟩ := H
  try dsimp only at H
  have A3 := Aside0.mk A30
  clear A30
  replace H := Option.bind_eq_some_iff.mp H
  obtain ⟨⟨t678, t681⟩, A40, H⟩ := H
  try dsimp only at H
  have A4 := Aside0.mk A40
  clear A40
  by_cases c5 : t677 = 0
  · rw [if_pos c5] at H
    have c5b0 : (t677 == 0) = true := beq_iff_eq.mpr c5
    have c5b1 : (t677 != 0) = false := bne_eq_false_iff_eq.mpr c5
    clear c5
    by_cases c6 : t681 = 0
    · rw [if_pos c6] at H
      have c6b0 : (t681 == 0) = true := beq_iff_eq.mpr c6
      have c6b1 : (t681 != 0) = false := bne_eq_false_iff_eq.mpr c6
      clear c6
      replace H := Option.bind_eq_some_iff.mp H
      obtain ⟨t682, A70, H⟩ := H
      try dsimp only at H
      have A7 := Aside0.mk A70
      clear A70
      by_cases c8 : (t682 == ((a0_0 == a1_0 && (a0_1 == a1_1)) && (a0_2 == a1_2 && ((a0_3 == a1_3 && (a0_4 == a1_4)) && (a0_5 == a1_5 && ((a0_6 == a1_6 && (a0_7 == a1_7 && (a0_8 == a1_8 && (a0_9 == a1_9 && (a0_10 == a1_10 && (a0_11 == a1_11 && (a0_12 == a1_12))))))))))))) = true
      · rw [if_pos c8] at H
        have c8b0 : (t682 == ((a0_0 == a1_0 && (a0_1 == a1_1)) && (a0_2 == a1_2 && ((a0_3 == a1_3 && (a0_4 == a1_4)) && (a0_5 == a1_5 && ((a0_6 == a1_6 && (a0_7 == a1_7 && (a0_8 == a1_8 && (a0_9 == a1_9 && (a0_10 == a1_10 && (a0_11 == a1_11 && (a0_12 == a1_12))))))))))))) = true := c8
        (try (have c8b1 : decide (t682 = ((a0_0 == a1_0 && (a0_1 == a1_1)) && (a0_2 == a1_2 && ((a0_3 == a1_3 && (a0_4 == a1_4)) && (a0_5 == a1_5 && ((a0_6 == a1_6 && (a0_7 == a1_7 && (a0_8 == a1_8 && (a0_9 == a1_9 && (a0_10 == a1_10 && (a0_11 == a1_11 && (a0_12 == a1_12))))))))))))) = true := by simpa using c8))
        (try (have c8b2 : (t682 == ((a0_0 == a1_0 && (a0_1 == a1_1)) && (a0_2 == a1_2 && ((a0_3 == a1_3 && (a0_4 == a1_4)) && (a0_5 == a1_5 && ((a0_6 == a1_6 && (a0_7 == a1_7 && (a0_8 == a1_8 && (a0_9 == a1_9 && (a0_10 == a1_10 && (a0_11 == a1_11 && (a0_12 == a1_12))))))))))))) = true := by simpa using c8))
        clear c8
        replace H := Option.bind_eq_some_iff.mp H
        obtain ⟨t683, A90, H⟩ := H
        replace H : (some t683) = some r := H
        have A9 := Aside0.mk A90
        clear A90
        obtain rfl := Option.some.inj H
        go_enter Try.func10, Try.ntmps10
        try go_wp2_with (first | ((with_reducible refine gate_dst (N := 2) rfl ?_); refine box_event ?hg (N := 2) ?hd (cs := #[.int .i64 a0_0, .int .i64 a0_1, .int .i64 a0_2, .int .i64 a0_3, .int .i64 a0_4, .bool a0_5, .int .i64 a0_6, .int .i64 a0_7, .int .i64 a0_8, .int .i64 a0_9, .int .i64 a0_10, .int .i64 a0_11, .int .i64 a0_12]) (t := 27) ?hr ?_; (case hd => rfl); (case hg => rfl); (case hr => first | (go_simp; done) | (go_simp; rfl)); intro gb672 hg w10 hbox hb; have n0_ := Aside0.mk (below_step (hU HB.out) hb); have n1_ := Aside0.mk (hbox); have n2_ := Aside0.mk ((by rw [hg]; exact (below_size (hU HB.out)) : w.heap.size ≤ gb672)); have n3_ := Aside0.mk ((by rw [hg]; exact (below_size (hU HB.out)) : w.heap.size ≤ gb672)); clear HB; have HB := n0_; have BK672 := n1_; have GW672 := n2_; have GE672 := n3_; clear n0_ n1_ n2_ n3_; clear hb hbox hg) | ((with_reducible refine gate_dst (N := 3) rfl ?_); refine box_event ?hg (N := 3) ?hd (cs := #[.int .i64 a1_0, .int .i64 a1_1, .int .i64 a1_2, .int .i64 a1_3, .int .i64 a1_4, .bool a1_5, .int .i64 a1_6, .int .i64 a1_7, .int .i64 a1_8, .int .i64 a1_9, .int .i64 a1_10, .int .i64 a1_11, .int .i64 a1_12]) (t := 27) ?hr ?_; (case hd => rfl); (case hg => rfl); (case hr => first | (go_simp; done) | (go_simp; rfl)); intro gb673 hg w11 hbox hb; have n0_ := Aside0.mk (blk_below (bU BK672.out) hb); have n1_ := Aside0.mk (below_step (hU HB.out) hb); have n2_ := Aside0.mk (hbox); have n3_ := Aside0.mk ((by rw [hg]; exact (below_size (hU HB.out)) : w.heap.size ≤ gb673)); have n4_ := Aside0.mk ((by rw [hg]; exact (below_size (hU HB.out)) : w.heap.size ≤ gb673)); have n5_ := Aside0.mk ((by rw [hg]; exact Nat.ne_of_lt (blk_lt (bU BK672.out)) : gb672 ≠ gb673)); have n6_ := Aside0.mk ((by rw [hg]; exact Nat.ne_of_gt (blk_lt (bU BK672.out)) : gb673 ≠ gb672)); clear BK672; clear HB; have BK672 := n0_; have HB := n1_; have BK673 := n2_; have GW673 := n3_; have GE673 := n4_; have NB672_673 := n5_; have NB673_672 := n6_; clear n0_ n1_ n2_ n3_ n4_ n5_ n6_; clear hb hbox hg; have hnb12 := NB672_673.out; have hnc12 := NB673_672.out; have hcz13_0 := blk_cell BK672.out; have hfz13_0 := blk_frozen BK672.out) | ((with_reducible refine gate_callee (f := 11) rfl ?_); refine goesL_ (some 11) rfl rfl Try.func11 (by kernel_rfl) rfl #[.agg #[.int .i64 a0_0, .int .i64 a0_1, .int .i64 a0_2, .int .i64 a0_3, .int .i64 a0_4, .bool a0_5, .int .i64 a0_6, .int .i64 a0_7, .int .i64 a0_8, .int .i64 a0_9, .int .i64 a0_10, .int .i64 a0_11, .int .i64 a0_12]] rfl (by (try simp only [List.map_toArray, List.map_cons, List.map_nil]); first | done | rfl | (simp only [List.length_drop, List.length_take]; rfl)) ?_; (with_reducible refine (edits_Put.calls k a0_0 a0_1 a0_2 a0_3 a0_4 a0_5 a0_6 a0_7 a0_8 a0_9 a0_10 a0_11 a0_12 t674 t677 _ A3.out).mono ?_); rintro e w14 ⟨v675, rfl, ho0, hb⟩; refine ⟨_, rfl, ?_⟩; have n0_ := Aside0.mk (Kd.V_lower (Kd.V_mono (ok' := fun k_ => k_ ≠ gb672 ∧ k_ ≠ gb673) ho0 (fun k_ hk_ => ⟨(Kd.freshB (bU BK672.out) k_ hk_), (Kd.freshB (bU BK673.out) k_ hk_)⟩)) (below_size (hU HB.out))); have n1_ := Aside0.mk (blk_below (bU BK672.out) hb); have n2_ := Aside0.mk (blk_below (bU BK673.out) hb); have n3_ := Aside0.mk (below_step (hU HB.out) hb); clear BK672; clear BK673; clear HB; have HO676 := n0_; have BK672 := n1_; have BK673 := n2_; have HB := n3_; clear n0_ n1_ n2_ n3_; (try clear hb); (try clear hb2); (try clear hk); (try clear hi); (try clear ho0); have hcz15_0 := blk_cell BK673.out; have hfz15_0 := blk_frozen BK673.out) | ((with_reducible refine gate_callee (f := 11) rfl ?_); refine goesL_ (some 16) rfl rfl Try.func11 (by kernel_rfl) rfl #[.agg #[.int .i64 a1_0, .int .i64 a1_1, .int .i64 a1_2, .int .i64 a1_3, .int .i64 a1_4, .bool a1_5, .int .i64 a1_6, .int .i64 a1_7, .int .i64 a1_8, .int .i64 a1_9, .int .i64 a1_10, .int .i64 a1_11, .int .i64 a1_12]] rfl (by (try simp only [List.map_toArray, List.map_cons, List.map_nil]); first | done | rfl | (simp only [List.length_drop, List.length_take]; rfl)) ?_; (with_reducible refine (edits_Put.calls k a1_0 a1_1 a1_2 a1_3 a1_4 a1_5 a1_6 a1_7 a1_8 a1_9 a1_10 a1_11 a1_12 t678 t681 _ A4.out).mono ?_); rintro e w16 ⟨v679, rfl, ho0, hb⟩; refine ⟨_, rfl, ?_⟩; have n0_ := Aside0.mk (Kd.V_below (Kd.vU HO676.out) hb); have n1_ := Aside0.mk (Kd.V_lower (Kd.V_mono (ok' := fun k_ => k_ ≠ gb672 ∧ k_ ≠ gb673) ho0 (fun k_ hk_ => ⟨(Kd.freshB (bU BK672.out) k_ hk_), (Kd.freshB (bU BK673.out) k_ hk_)⟩)) (below_size (hU HB.out))); have n2_ := Aside0.mk (blk_below (bU BK672.out) hb); have n3_ := Aside0.mk (blk_below (bU BK673.out) hb); have n4_ := Aside0.mk (below_step (hU HB.out) hb); clear HO676; clear BK672; clear BK673; clear HB; have HO676 := n0_; have HO680 := n1_; have BK672 := n2_; have BK673 := n3_; have HB := n4_; clear n0_ n1_ n2_ n3_ n4_; (try clear hb); (try clear hb2); (try clear hk); (try clear hi); (try clear ho0)))
        have n0_ := Aside0.mk (Kd.V_drew HO676.out)
        have n1_ := Aside0.mk (Kd.V_drew HO680.out)
        have n2_ := Aside0.mk (blk_drew BK672.out)
        have n3_ := Aside0.mk (blk_drew BK673.out)
        have n4_ := Aside0.mk (below_drew1 HB.out)
        clear HO676
        clear HO680
        clear BK672
        clear BK673
        clear HB
        have HO676 := n0_
        have HO680 := n1_
        have BK672 := n2_
        have BK673 := n3_
        have HB := n4_
        clear n0_ n1_ n2_ n3_ n4_
        obtain ⟨Ao18, co18, eo18⟩ := Kd.V_slice HO676.out
        (first | subst eo18 | (injection eo18 with f1_ f2_ f3_; have f4_ := f1_.symm; have f5_ := f3_.symm; clear f1_ f2_ f3_; subst f4_; subst f5_))
        obtain ⟨Ao19, co19, eo19⟩ := Kd.V_slice HO680.out
        (first | subst eo19 | (injection eo19 with f1_ f2_ f3_; have f4_ := f1_.symm; have f5_ := f3_.symm; clear f1_ f2_ f3_; subst f4_; subst f5_))
        refine start_ (n := 11) (S := fun w' => w'.cell? ⟨gb672, 0, none⟩ = some (.int .i64 a0_0) ∧ w'.cell? ⟨gb672, 1, none⟩ = some (.int .i64 a0_1) ∧ w'.cell? ⟨gb672, 2, none⟩ = some (.int .i64 a0_2) ∧ w'.cell? ⟨gb672, 3, none⟩ = some (.int .i64 a0_3) ∧ w'.cell? ⟨gb672, 4, none⟩ = some (.int .i64 a0_4) ∧ w'.cell? ⟨gb672, 5, none⟩ = some (.bool a0_5) ∧ w'.cell? ⟨gb672, 6, none⟩ = some (.int .i64 a0_6) ∧ w'.cell? ⟨gb672, 7, none⟩ = some (.int .i64 a0_7) ∧ w'.cell? ⟨gb672, 8, none⟩ = some (.int .i64 a0_8) ∧ w'.cell? ⟨gb672, 9, none⟩ = some (.int .i64 a0_9) ∧ w'.cell? ⟨gb672, 10, none⟩ = some (.int .i64 a0_10) ∧ w'.cell? ⟨gb672, 11, none⟩ = some (.int .i64 a0_11) ∧ w'.cell? ⟨gb672, 12, none⟩ = some (.int .i64 a0_12) ∧ w'.cell? ⟨gb673, 0, none⟩ = some (.int .i64 a1_0) ∧ w'.cell? ⟨gb673, 1, none⟩ = some (.int .i64 a1_1) ∧ w'.cell? ⟨gb673, 2, none⟩ = some (.int .i64 a1_2) ∧ w'.cell? ⟨gb673, 3, none⟩ = some (.int .i64 a1_3) ∧ w'.cell? ⟨gb673, 4, none⟩ = some (.int .i64 a1_4) ∧ w'.cell? ⟨gb673, 5, none⟩ = some (.bool a1_5) ∧ w'.cell? ⟨gb673, 6, none⟩ = some (.int .i64 a1_6) ∧ w'.cell? ⟨gb673, 7, none⟩ = some (.int .i64 a1_7) ∧ w'.cell? ⟨gb673, 8, none⟩ = some (.int .i64 a1_8) ∧ w'.cell? ⟨gb673, 9, none⟩ = some (.int .i64 a1_9) ∧ w'.cell? ⟨gb673, 10, none⟩ = some (.int .i64 a1_10) ∧ w'.cell? ⟨gb673, 11, none⟩ = some (.int .i64 a1_11) ∧ w'.cell? ⟨gb673, 12, none⟩ = some (.int .i64 a1_12)) (ds := []) #[false, false, false, false, false, false, false, false, false, false, false] (by kernel_rfl) rfl rfl ⟨(blk_cell BK672.out 0).trans rfl, (blk_cell BK672.out 1).trans rfl, (blk_cell BK672.out 2).trans rfl, (blk_cell BK672.out 3).trans rfl, (blk_cell BK672.out 4).trans rfl, (blk_cell BK672.out 5).trans rfl, (blk_cell BK672.out 6).trans rfl, (blk_cell BK672.out 7).trans rfl, (blk_cell BK672.out 8).trans rfl, (blk_cell BK672.out 9).trans rfl, (blk_cell BK672.out 10).trans rfl, (blk_cell BK672.out 11).trans rfl, (blk_cell BK672.out 12).trans rfl, (blk_cell BK673.out 0).trans rfl, (blk_cell BK673.out 1).trans rfl, (blk_cell BK673.out 2).trans rfl, (blk_cell BK673.out 3).trans rfl, (blk_cell BK673.out 4).trans rfl, (blk_cell BK673.out 5).trans rfl, (blk_cell BK673.out 6).trans rfl, (blk_cell BK673.out 7).trans rfl, (blk_cell BK673.out 8).trans rfl, (blk_cell BK673.out 9).trans rfl, (blk_cell BK673.out 10).trans rfl, (blk_cell BK673.out 11).trans rfl, (blk_cell BK673.out 12).trans rfl⟩ (fun hHeld => ?_); refine with_tabW dancestudiolaw56_EditsApart.tab5 dancestudiolaw56_EditsApart.bits5 (fun HT_ HW_ => ?_)
        generalize w16.drew = w17 at HO676 HO680 BK672 BK673 HB hHeld ⊢
        refine pure_ (i := 0) (N := some 26) (v := ?_) (a' := ?_) #[true, false, false, false, false, false, false, false, false, false, false] rfl rfl (any_of HT_.out (by kernel_rfl)) (fun _ _ _ h => h) (Or.inl ⟨by rfl, ?_⟩) ?_ ?_
        rotate_left
        · intro w'
          go_simp
          with_reducible rfl
        rotate_left
        · simp only [Act.put, List.setIfInBounds_toArray, List.set_cons_zero, List.set_cons_succ, i64_w, i32_w]
          rfl
        refine pure_ (i := 1) (N := some 27) (v := ?_) (a' := ?_) #[true, true, false, false, false, false, false, false, false, false, false] rfl rfl (any_of HT_.out (by kernel_rfl)) (fun _ _ _ h => h) (Or.inl ⟨by rfl, ?_⟩) ?_ ?_
        rotate_left
        · intro w'
          go_simp
          with_reducible rfl
        rotate_left
        · simp only [Act.put, List.setIfInBounds_toArray, List.set_cons_zero, List.set_cons_succ, i64_w, i32_w]
          rfl
        refine take_ (i := 3) (N := some 29) (v := ?_) (a' := ?_) #[true, true, false, true, false, false, false, false, false, false, false] rfl rfl (take_ofW HT_.out HW_.out (by kernel_rfl)) (fun _ _ _ h => h) (Or.inl ⟨by rfl, ?_⟩) hHeld ?_ ?_
        rotate_left
        · rintro w' ⟨s0, s1, s2, s3, s4, s5, s6, s7, s8, s9, s10, s11, s12, s13, s14, s15, s16, s17, s18, s19, s20, s21, s22, s23, s24, s25⟩
          go_simp
          with_reducible rfl
        rotate_left
        · simp only [Act.put, List.setIfInBounds_toArray, List.set_cons_zero, List.set_cons_succ, i64_w, i32_w]
          rfl
        refine take_ (i := 4) (N := some 30) (v := ?_) (a' := ?_) #[true, true, false, true, true, false, false, false, false, false, false] rfl rfl (take_ofW HT_.out HW_.out (by kernel_rfl)) (fun _ _ _ h => h) (Or.inl ⟨by rfl, ?_⟩) hHeld ?_ ?_
        rotate_left
        · rintro w' ⟨s0, s1, s2, s3, s4, s5, s6, s7, s8, s9, s10, s11, s12, s13, s14, s15, s16, s17, s18, s19, s20, s21, s22, s23, s24, s25⟩
          go_simp
          with_reducible rfl
        rotate_left
        · simp only [Act.put, List.setIfInBounds_toArray, List.set_cons_zero, List.set_cons_succ, i64_w, i32_w]
          rfl
        refine pure_ (i := 5) (N := some 31) (v := ?_) (a' := ?_) #[true, true, false, true, true, true, false, false, false, false, false] rfl rfl (any_of HT_.out (by kernel_rfl)) (fun _ _ _ h => h) (Or.inl ⟨by rfl, ?_⟩) ?_ ?_
        rotate_left
        · intro w'
          go_simp
          with_reducible rfl
        rotate_left
        · simp only [Act.put, List.setIfInBounds_toArray, List.set_cons_zero, List.set_cons_succ, i64_w, i32_w]
          rfl
        refine one_ (i := 2) (N := some 28) #[true, true, true, true, true, true, false, false, false, false, false] rfl rfl (one_of HT_.out (by kernel_rfl)) (by decide) (fun K hK => ?_)
        refine goes_ Try.func15 (by kernel_rfl) rfl #[.slice Ao18 t674.length co18, .slice Ao19 t678.length co19] (by rfl) rfl rfl (by (try simp only [List.map_toArray, List.map_cons, List.map_nil]); first | done | rfl | (simp only [List.length_drop, List.length_take]; rfl)) ?_
        with_reducible refine (dancestudioref07_Bytes.calls _ _ t674 _ _ t678 t682 _ ?side1 ?side2 ?side3 ?side4 A7.out).mono ?_
        (case side1 => repeat (first | exact (Kd.V_reads' HO676.out).2.2 | (with_reducible refine Kd.C_alloc ?_ _) | (with_reducible refine Kd.C_drewN ?_ _) | (with_reducible refine Kd.C_drew ?_)))
        (case side2 => exact (Kd.V_reads' HO676.out).2.1)
        (case side3 => repeat (first | exact (Kd.V_reads' HO680.out).2.2 | (with_reducible refine Kd.C_alloc ?_ _) | (with_reducible refine Kd.C_drewN ?_ _) | (with_reducible refine Kd.C_drew ?_)))
        (case side4 => exact (Kd.V_reads' HO680.out).2.1)
        rintro e w' ⟨rfl, ⟨nd, rfl⟩⟩
        refine ⟨_, rfl, ?_⟩
        refine hK.out _ _ ⟨(blk_cell BK672.out 0).trans rfl, (blk_cell BK672.out 1).trans rfl, (blk_cell BK672.out 2).trans rfl, (blk_cell BK672.out 3).trans rfl, (blk_cell BK672.out 4).trans rfl, (blk_cell BK672.out 5).trans rfl, (blk_cell BK672.out 6).trans rfl, (blk_cell BK672.out 7).trans rfl, (blk_cell BK672.out 8).trans rfl, (blk_cell BK672.out 9).trans rfl, (blk_cell BK672.out 10).trans rfl, (blk_cell BK672.out 11).trans rfl, (blk_cell BK672.out 12).trans rfl, (blk_cell BK673.out 0).trans rfl, (blk_cell BK673.out 1).trans rfl, (blk_cell BK673.out 2).trans rfl, (blk_cell BK673.out 3).trans rfl, (blk_cell BK673.out 4).trans rfl, (blk_cell BK673.out 5).trans rfl, (blk_cell BK673.out 6).trans rfl, (blk_cell BK673.out 7).trans rfl, (blk_cell BK673.out 8).trans rfl, (blk_cell BK673.out 9).trans rfl, (blk_cell BK673.out 10).trans rfl, (blk_cell BK673.out 11).trans rfl, (blk_cell BK673.out 12).trans rfl⟩ (fun hHeld => ?_)
        clear hK K
        refine norm_ (a' := ?_) ?_ ?_
        rotate_left
        · show Act.put _ (some 28) _ = _
          simp only [Act.put, List.setIfInBounds_toArray, List.set_cons_zero, List.set_cons_succ, i64_w, i32_w]
          rfl
        refine pure_ (i := 6) (N := some 32) (v := ?_) (a' := ?_) #[true, true, true, true, true, true, true, false, false, false, false] rfl rfl (any_of HT_.out (by kernel_rfl)) (fun _ _ _ h => h) (Or.inl ⟨by rfl, ?_⟩) ?_ ?_
        rotate_left
        · intro w'
          go_simp
          with_reducible rfl
        rotate_left
        · simp only [Act.put, List.setIfInBounds_toArray, List.set_cons_zero, List.set_cons_succ, i64_w, i32_w]
          rfl
        refine pure_ (i := 7) (N := some 33) (v := ?_) (a' := ?_) #[true, true, true, true, true, true, true, true, false, false, false] rfl rfl (any_of HT_.out (by kernel_rfl)) (fun _ _ _ h => h) (Or.inl ⟨by rfl, ?_⟩) ?_ ?_
        rotate_left
        · intro w'
          go_simp
          with_reducible rfl
        rotate_left
        · simp only [Act.put, List.setIfInBounds_toArray, List.set_cons_zero, List.set_cons_succ, i64_w, i32_w]
          rfl
        refine one_ (i := 8) (N := some 34) #[true, true, true, true, true, true, true, true, true, false, false] rfl rfl (one_of HT_.out (by kernel_rfl)) (by decide) (fun K hK => ?_)
        refine goes_ Try.func16 (by kernel_rfl) rfl #[] (by rfl) rfl rfl (by (try simp only [List.map_toArray, List.map_cons, List.map_nil]); first | done | rfl | (simp only [List.length_drop, List.length_take]; rfl)) ?_
        with_reducible refine (dancestudiolaw56_awake.calls k  t683 _ A9.out).mono ?_
        rintro e w20 ⟨rfl, hb⟩
        refine ⟨_, rfl, ?_⟩
        have n0_ := Aside0.mk (Kd.V_below (Kd.vU HO676.out) hb)
        have n1_ := Aside0.mk (Kd.V_below (Kd.vU HO680.out) hb)
        have n2_ := Aside0.mk (blk_below (bU BK672.out) hb)
        have n3_ := Aside0.mk (blk_below (bU BK673.out) hb)
        have n4_ := Aside0.mk (below_step (hU HB.out) hb)
        clear HO676
        clear HO680
        clear BK672
        clear BK673
        clear HB
        have HO676 := n0_
        have HO680 := n1_
        have BK672 := n2_
        have BK673 := n3_
        have HB := n4_
        clear n0_ n1_ n2_ n3_ n4_
        (try clear hb)
        (try clear hb2)
        (try clear hk)
        (try clear hi)
        refine hK.out _ _ ⟨(blk_cell BK672.out 0).trans rfl, (blk_cell BK672.out 1).trans rfl, (blk_cell BK672.out 2).trans rfl, (blk_cell BK672.out 3).trans rfl, (blk_cell BK672.out 4).trans rfl, (blk_cell BK672.out 5).trans rfl, (blk_cell BK672.out 6).trans rfl, (blk_cell BK672.out 7).trans rfl, (blk_cell BK672.out 8).trans rfl, (blk_cell BK672.out 9).trans rfl, (blk_cell BK672.out 10).trans rfl, (blk_cell BK672.out 11).trans rfl, (blk_cell BK672.out 12).trans rfl, (blk_cell BK673.out 0).trans rfl, (blk_cell BK673.out 1).trans rfl, (blk_cell BK673.out 2).trans rfl, (blk_cell BK673.out 3).trans rfl, (blk_cell BK673.out 4).trans rfl, (blk_cell BK673.out 5).trans rfl, (blk_cell BK673.out 6).trans rfl, (blk_cell BK673.out 7).trans rfl, (blk_cell BK673.out 8).trans rfl, (blk_cell BK673.out 9).trans rfl, (blk_cell BK673.out 10).trans rfl, (blk_cell BK673.out 11).trans rfl, (blk_cell BK673.out 12).trans rfl⟩ (fun hHeld => ?_)
        clear hK K
        refine norm_ (a' := ?_) ?_ ?_
        rotate_left
        · show Act.put _ (some 34) _ = _
          simp only [Act.put, List.setIfInBounds_toArray, List.set_cons_zero, List.set_cons_succ, i64_w, i32_w]
          rfl
        refine pure_ (i := 9) (N := some 35) (v := ?_) (a' := ?_) #[true, true, true, true, true, true, true, true, true, true, false] rfl rfl (any_of HT_.out (by kernel_rfl)) (fun _ _ _ h => h) (Or.inl ⟨by rfl, ?_⟩) ?_ ?_
        rotate_left
        · intro w'
          go_simp
          with_reducible rfl
        rotate_left
        · simp only [Act.put, List.setIfInBounds_toArray, List.set_cons_zero, List.set_cons_succ, i64_w, i32_w]
          rfl
        refine pure_ (i := 10) (N := some 4) (v := ?_) (a' := ?_) #[true, true, true, true, true, true, true, true, true, true, true] rfl rfl (any_of HT_.out (by kernel_rfl)) (fun _ _ _ h => h) (Or.inl ⟨by rfl, ?_⟩) ?_ ?_
        rotate_left
        · intro w'
          go_simp
          with_reducible rfl
        rotate_left
        · simp only [Act.put, List.setIfInBounds_toArray, List.set_cons_zero, List.set_cons_succ, i64_w, i32_w]
          rfl
        refine done_ (done_of HT_.out (by kernel_rfl)) ?_
        try go_wp2
        go_ret
        exact ⟨by first | rfl | (simp [errW_none, errW_some] <;> rfl) | (simp [*, errW_none, errW_some] <;> rfl), hU HB.out⟩
      · rw [if_neg c8] at H
        exact absurd H (by simp)
    · rw [if_neg c6] at H
      have c6b0 : (t681 == 0) = false := beq_eq_false_iff_ne.mpr c6
      have c6b1 : (t681 != 0) = true := bne_iff_ne.mpr c6
      replace H := Option.bind_eq_some_iff.mp H
      obtain ⟨t684, A210, H⟩ := H
      replace H : (some t684) = some r := H
      have A21 := Aside0.mk A210
      clear A210
      obtain rfl := Option.some.inj H
      go_enter Try.func10, Try.ntmps10
      go_wp2_with (first | ((with_reducible refine gate_dst (N := 2) rfl ?_); refine box_event ?hg (N := 2) ?hd (cs := #[.int .i64 a0_0, .int .i64 a0_1, .int .i64 a0_2, .int .i64 a0_3, .int .i64 a0_4, .bool a0_5, .int .i64 a0_6, .int .i64 a0_7, .int .i64 a0_8, .int .i64 a0_9, .int .i64 a0_10, .int .i64 a0_11, .int .i64 a0_12]) (t := 27) ?hr ?_; (case hd => rfl); (case hg => rfl); (case hr => first | (go_simp; done) | (go_simp; rfl)); intro gb672 hg w22 hbox hb; have n0_ := Aside0.mk (below_step (hU HB.out) hb); have n1_ := Aside0.mk (hbox); have n2_ := Aside0.mk ((by rw [hg]; exact (below_size (hU HB.out)) : w.heap.size ≤ gb672)); have n3_ := Aside0.mk ((by rw [hg]; exact (below_size (hU HB.out)) : w.heap.size ≤ gb672)); clear HB; have HB := n0_; have BK672 := n1_; have GW672 := n2_; have GE672 := n3_; clear n0_ n1_ n2_ n3_; clear hb hbox hg) | ((with_reducible refine gate_dst (N := 3) rfl ?_); refine box_event ?hg (N := 3) ?hd (cs := #[.int .i64 a1_0, .int .i64 a1_1, .int .i64 a1_2, .int .i64 a1_3, .int .i64 a1_4, .bool a1_5, .int .i64 a1_6, .int .i64 a1_7, .int .i64 a1_8, .int .i64 a1_9, .int .i64 a1_10, .int .i64 a1_11, .int .i64 a1_12]) (t := 27) ?hr ?_; (case hd => rfl); (case hg => rfl); (case hr => first | (go_simp; done) | (go_simp; rfl)); intro gb673 hg w23 hbox hb; have n0_ := Aside0.mk (blk_below (bU BK672.out) hb); have n1_ := Aside0.mk (below_step (hU HB.out) hb); have n2_ := Aside0.mk (hbox); have n3_ := Aside0.mk ((by rw [hg]; exact (below_size (hU HB.out)) : w.heap.size ≤ gb673)); have n4_ := Aside0.mk ((by rw [hg]; exact (below_size (hU HB.out)) : w.heap.size ≤ gb673)); have n5_ := Aside0.mk ((by rw [hg]; exact Nat.ne_of_lt (blk_lt (bU BK672.out)) : gb672 ≠ gb673)); have n6_ := Aside0.mk ((by rw [hg]; exact Nat.ne_of_gt (blk_lt (bU BK672.out)) : gb673 ≠ gb672)); clear BK672; clear HB; have BK672 := n0_; have HB := n1_; have BK673 := n2_; have GW673 := n3_; have GE673 := n4_; have NB672_673 := n5_; have NB673_672 := n6_; clear n0_ n1_ n2_ n3_ n4_ n5_ n6_; clear hb hbox hg; have hnb24 := NB672_673.out; have hnc24 := NB673_672.out; have hcz25_0 := blk_cell BK672.out; have hfz25_0 := blk_frozen BK672.out) | ((with_reducible refine gate_callee (f := 11) rfl ?_); refine goesL_ (some 11) rfl rfl Try.func11 (by kernel_rfl) rfl #[.agg #[.int .i64 a0_0, .int .i64 a0_1, .int .i64 a0_2, .int .i64 a0_3, .int .i64 a0_4, .bool a0_5, .int .i64 a0_6, .int .i64 a0_7, .int .i64 a0_8, .int .i64 a0_9, .int .i64 a0_10, .int .i64 a0_11, .int .i64 a0_12]] rfl (by (try simp only [List.map_toArray, List.map_cons, List.map_nil]); first | done | rfl | (simp only [List.length_drop, List.length_take]; rfl)) ?_; (with_reducible refine (edits_Put.calls k a0_0 a0_1 a0_2 a0_3 a0_4 a0_5 a0_6 a0_7 a0_8 a0_9 a0_10 a0_11 a0_12 t674 t677 _ A3.out).mono ?_); rintro e w26 ⟨v675, rfl, ho0, hb⟩; refine ⟨_, rfl, ?_⟩; have n0_ := Aside0.mk (Kd.V_lower (Kd.V_mono (ok' := fun k_ => k_ ≠ gb672 ∧ k_ ≠ gb673) ho0 (fun k_ hk_ => ⟨(Kd.freshB (bU BK672.out) k_ hk_), (Kd.freshB (bU BK673.out) k_ hk_)⟩)) (below_size (hU HB.out))); have n1_ := Aside0.mk (blk_below (bU BK672.out) hb); have n2_ := Aside0.mk (blk_below (bU BK673.out) hb); have n3_ := Aside0.mk (below_step (hU HB.out) hb); clear BK672; clear BK673; clear HB; have HO676 := n0_; have BK672 := n1_; have BK673 := n2_; have HB := n3_; clear n0_ n1_ n2_ n3_; (try clear hb); (try clear hb2); (try clear hk); (try clear hi); (try clear ho0); have hcz27_0 := blk_cell BK673.out; have hfz27_0 := blk_frozen BK673.out) | ((with_reducible refine gate_callee (f := 11) rfl ?_); refine goesL_ (some 16) rfl rfl Try.func11 (by kernel_rfl) rfl #[.agg #[.int .i64 a1_0, .int .i64 a1_1, .int .i64 a1_2, .int .i64 a1_3, .int .i64 a1_4, .bool a1_5, .int .i64 a1_6, .int .i64 a1_7, .int .i64 a1_8, .int .i64 a1_9, .int .i64 a1_10, .int .i64 a1_11, .int .i64 a1_12]] rfl (by (try simp only [List.map_toArray, List.map_cons, List.map_nil]); first | done | rfl | (simp only [List.length_drop, List.length_take]; rfl)) ?_; (with_reducible refine (edits_Put.calls k a1_0 a1_1 a1_2 a1_3 a1_4 a1_5 a1_6 a1_7 a1_8 a1_9 a1_10 a1_11 a1_12 t678 t681 _ A4.out).mono ?_); rintro e w28 ⟨v679, rfl, ho0, hb⟩; refine ⟨_, rfl, ?_⟩; have n0_ := Aside0.mk (Kd.V_below (Kd.vU HO676.out) hb); have n1_ := Aside0.mk (Kd.V_lower (Kd.V_mono (ok' := fun k_ => k_ ≠ gb672 ∧ k_ ≠ gb673) ho0 (fun k_ hk_ => ⟨(Kd.freshB (bU BK672.out) k_ hk_), (Kd.freshB (bU BK673.out) k_ hk_)⟩)) (below_size (hU HB.out))); have n2_ := Aside0.mk (blk_below (bU BK672.out) hb); have n3_ := Aside0.mk (blk_below (bU BK673.out) hb); have n4_ := Aside0.mk (below_step (hU HB.out) hb); clear HO676; clear BK672; clear BK673; clear HB; have HO676 := n0_; have HO680 := n1_; have BK672 := n2_; have BK673 := n3_; have HB := n4_; clear n0_ n1_ n2_ n3_ n4_; (try clear hb); (try clear hb2); (try clear hk); (try clear hi); (try clear ho0)) | ((with_reducible refine gate_callee (f := 16) rfl ?_); refine goesL_ (some 25) rfl rfl Try.func16 (by kernel_rfl) rfl #[] rfl (by (try simp only [List.map_toArray, List.map_cons, List.map_nil]); first | done | rfl | (simp only [List.length_drop, List.length_take]; rfl)) ?_; (with_reducible refine (dancestudiolaw56_awake.calls k  t684 _ A21.out).mono ?_); rintro e w29 ⟨rfl, hb⟩; refine ⟨_, rfl, ?_⟩; have n0_ := Aside0.mk (Kd.V_below (Kd.vU HO676.out) hb); have n1_ := Aside0.mk (Kd.V_below (Kd.vU HO680.out) hb); have n2_ := Aside0.mk (blk_below (bU BK672.out) hb); have n3_ := Aside0.mk (blk_below (bU BK673.out) hb); have n4_ := Aside0.mk (below_step (hU HB.out) hb); clear HO676; clear HO680; clear BK672; clear BK673; clear HB; have HO676 := n0_; have HO680 := n1_; have BK672 := n2_; have BK673 := n3_; have HB := n4_; clear n0_ n1_ n2_ n3_ n4_; (try clear hb); (try clear hb2); (try clear hk); (try clear hi)))
      go_ret
      exact ⟨by first | rfl | (simp [errW_none, errW_some] <;> rfl) | (simp [*, errW_none, errW_some] <;> rfl), hU HB.out⟩
  · rw [if_neg c5] at H
    have c5b0 : (t677 == 0) = false := beq_eq_false_iff_ne.mpr c5
    have c5b1 : (t677 != 0) = true := bne_iff_ne.mpr c5
    replace H := Option.bind_eq_some_iff.mp H
    obtain ⟨t685, A300, H⟩ := H
    replace H : (some t685) = some r := H
    have A30 := Aside0.mk A300
    clear A300
    obtain rfl := Option.some.inj H
    go_enter Try.func10, Try.ntmps10
    go_wp2_with (first | ((with_reducible refine gate_dst (N := 2) rfl ?_); refine box_event ?hg (N := 2) ?hd (cs := #[.int .i64 a0_0, .int .i64 a0_1, .int .i64 a0_2, .int .i64 a0_3, .int .i64 a0_4, .bool a0_5, .int .i64 a0_6, .int .i64 a0_7, .int .i64 a0_8, .int .i64 a0_9, .int .i64 a0_10, .int .i64 a0_11, .int .i64 a0_12]) (t := 27) ?hr ?_; (case hd => rfl); (case hg => rfl); (case hr => first | (go_simp; done) | (go_simp; rfl)); intro gb672 hg w31 hbox hb; have n0_ := Aside0.mk (below_step (hU HB.out) hb); have n1_ := Aside0.mk (hbox); have n2_ := Aside0.mk ((by rw [hg]; exact (below_size (hU HB.out)) : w.heap.size ≤ gb672)); have n3_ := Aside0.mk ((by rw [hg]; exact (below_size (hU HB.out)) : w.heap.size ≤ gb672)); clear HB; have HB := n0_; have BK672 := n1_; have GW672 := n2_; have GE672 := n3_; clear n0_ n1_ n2_ n3_; clear hb hbox hg) | ((with_reducible refine gate_dst (N := 3) rfl ?_); refine box_event ?hg (N := 3) ?hd (cs := #[.int .i64 a1_0, .int .i64 a1_1, .int .i64 a1_2, .int .i64 a1_3, .int .i64 a1_4, .bool a1_5, .int .i64 a1_6, .int .i64 a1_7, .int .i64 a1_8, .int .i64 a1_9, .int .i64 a1_10, .int .i64 a1_11, .int .i64 a1_12]) (t := 27) ?hr ?_; (case hd => rfl); (case hg => rfl); (case hr => first | (go_simp; done) | (go_simp; rfl)); intro gb673 hg w32 hbox hb; have n0_ := Aside0.mk (blk_below (bU BK672.out) hb); have n1_ := Aside0.mk (below_step (hU HB.out) hb); have n2_ := Aside0.mk (hbox); have n3_ := Aside0.mk ((by rw [hg]; exact (below_size (hU HB.out)) : w.heap.size ≤ gb673)); have n4_ := Aside0.mk ((by rw [hg]; exact (below_size (hU HB.out)) : w.heap.size ≤ gb673)); have n5_ := Aside0.mk ((by rw [hg]; exact Nat.ne_of_lt (blk_lt (bU BK672.out)) : gb672 ≠ gb673)); have n6_ := Aside0.mk ((by rw [hg]; exact Nat.ne_of_gt (blk_lt (bU BK672.out)) : gb673 ≠ gb672)); clear BK672; clear HB; have BK672 := n0_; have HB := n1_; have BK673 := n2_; have GW673 := n3_; have GE673 := n4_; have NB672_673 := n5_; have NB673_672 := n6_; clear n0_ n1_ n2_ n3_ n4_ n5_ n6_; clear hb hbox hg; have hnb33 := NB672_673.out; have hnc33 := NB673_672.out; have hcz34_0 := blk_cell BK672.out; have hfz34_0 := blk_frozen BK672.out) | ((with_reducible refine gate_callee (f := 11) rfl ?_); refine goesL_ (some 11) rfl rfl Try.func11 (by kernel_rfl) rfl #[.agg #[.int .i64 a0_0, .int .i64 a0_1, .int .i64 a0_2, .int .i64 a0_3, .int .i64 a0_4, .bool a0_5, .int .i64 a0_6, .int .i64 a0_7, .int .i64 a0_8, .int .i64 a0_9, .int .i64 a0_10, .int .i64 a0_11, .int .i64 a0_12]] rfl (by (try simp only [List.map_toArray, List.map_cons, List.map_nil]); first | done | rfl | (simp only [List.length_drop, List.length_take]; rfl)) ?_; (with_reducible refine (edits_Put.calls k a0_0 a0_1 a0_2 a0_3 a0_4 a0_5 a0_6 a0_7 a0_8 a0_9 a0_10 a0_11 a0_12 t674 t677 _ A3.out).mono ?_); rintro e w35 ⟨v675, rfl, ho0, hb⟩; refine ⟨_, rfl, ?_⟩; have n0_ := Aside0.mk (Kd.V_lower (Kd.V_mono (ok' := fun k_ => k_ ≠ gb672 ∧ k_ ≠ gb673) ho0 (fun k_ hk_ => ⟨(Kd.freshB (bU BK672.out) k_ hk_), (Kd.freshB (bU BK673.out) k_ hk_)⟩)) (below_size (hU HB.out))); have n1_ := Aside0.mk (blk_below (bU BK672.out) hb); have n2_ := Aside0.mk (blk_below (bU BK673.out) hb); have n3_ := Aside0.mk (below_step (hU HB.out) hb); clear BK672; clear BK673; clear HB; have HO676 := n0_; have BK672 := n1_; have BK673 := n2_; have HB := n3_; clear n0_ n1_ n2_ n3_; (try clear hb); (try clear hb2); (try clear hk); (try clear hi); (try clear ho0); have hcz36_0 := blk_cell BK673.out; have hfz36_0 := blk_frozen BK673.out) | ((with_reducible refine gate_callee (f := 11) rfl ?_); refine goesL_ (some 16) rfl rfl Try.func11 (by kernel_rfl) rfl #[.agg #[.int .i64 a1_0, .int .i64 a1_1, .int .i64 a1_2, .int .i64 a1_3, .int .i64 a1_4, .bool a1_5, .int .i64 a1_6, .int .i64 a1_7, .int .i64 a1_8, .int .i64 a1_9, .int .i64 a1_10, .int .i64 a1_11, .int .i64 a1_12]] rfl (by (try simp only [List.map_toArray, List.map_cons, List.map_nil]); first | done | rfl | (simp only [List.length_drop, List.length_take]; rfl)) ?_; (with_reducible refine (edits_Put.calls k a1_0 a1_1 a1_2 a1_3 a1_4 a1_5 a1_6 a1_7 a1_8 a1_9 a1_10 a1_11 a1_12 t678 t681 _ A4.out).mono ?_); rintro e w37 ⟨v679, rfl, ho0, hb⟩; refine ⟨_, rfl, ?_⟩; have n0_ := Aside0.mk (Kd.V_below (Kd.vU HO676.out) hb); have n1_ := Aside0.mk (Kd.V_lower (Kd.V_mono (ok' := fun k_ => k_ ≠ gb672 ∧ k_ ≠ gb673) ho0 (fun k_ hk_ => ⟨(Kd.freshB (bU BK672.out) k_ hk_), (Kd.freshB (bU BK673.out) k_ hk_)⟩)) (below_size (hU HB.out))); have n2_ := Aside0.mk (blk_below (bU BK672.out) hb); have n3_ := Aside0.mk (blk_below (bU BK673.out) hb); have n4_ := Aside0.mk (below_step (hU HB.out) hb); clear HO676; clear BK672; clear BK673; clear HB; have HO676 := n0_; have HO680 := n1_; have BK672 := n2_; have BK673 := n3_; have HB := n4_; clear n0_ n1_ n2_ n3_ n4_; (try clear hb); (try clear hb2); (try clear hk); (try clear hi); (try clear ho0)) | ((with_reducible refine gate_callee (f := 16) rfl ?_); refine goesL_ (some 25) rfl rfl Try.func16 (by kernel_rfl) rfl #[] rfl (by (try simp only [List.map_toArray, List.map_cons, List.map_nil]); first | done | rfl | (simp only [List.length_drop, List.length_take]; rfl)) ?_; (with_reducible refine (dancestudiolaw56_awake.calls k  t685 _ A30.out).mono ?_); rintro e w38 ⟨rfl, hb⟩; refine ⟨_, rfl, ?_⟩; have n0_ := Aside0.mk (Kd.V_below (Kd.vU HO676.out) hb); have n1_ := Aside0.mk (Kd.V_below (Kd.vU HO680.out) hb); have n2_ := Aside0.mk (blk_below (bU BK672.out) hb); have n3_ := Aside0.mk (blk_below (bU BK673.out) hb); have n4_ := Aside0.mk (below_step (hU HB.out) hb); clear HO676; clear HO680; clear BK672; clear BK673; clear HB; have HO676 := n0_; have HO680 := n1_; have BK672 := n2_; have BK673 := n3_; have HB := n4_; clear n0_ n1_ n2_ n3_ n4_; (try clear hb); (try clear hb2); (try clear hk); (try clear hi)))
    go_ret
    exact ⟨by first | rfl | (simp [errW_none, errW_some] <;> rfl) | (simp [*, errW_none, errW_some] <;> rfl), hU HB.out⟩

end Go.Proofs.Ytekagaimfdbgiaa.P

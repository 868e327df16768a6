-- Written by a program of this session (myprint.py over the kit's print): the Go functions of the seat as Lean functions, and what their calls do.
import Derived.Test.YtdilndbanhianaaUReg
import Derived.Test.YtdilndbanhianaaUMA
namespace Go.Proofs.Ytdilndbanhianaa.P
open Go.RowKit Go.Proofs.YtdilndbanhianaaW.PrintWords Go.Proofs.YtdilndbanhianaaW.PrintLast Go.Proofs.YtdilndbanhianaaW.PrintMore
attribute [local go_sem] max2_int min2_int max_two min_two max_three min_three max_four min_four   -- for this text's walks alone
set_option linter.unusedVariables false
set_option linter.unusedSimpArgs false

/-! ### dancestudioref24_Common: function 63 -/
def dancestudioref24_Common.f (a0_0 : Int) (a0_1 : Int) (a0_2 : Int) (a0_3 : Int) (a0_4 : Int) (a0_5 : Int) (a0_6 : Int) (a1_0 : Int) (a1_1 : Int) (a1_2 : Int) (a1_3 : Int) (a1_4 : Int) (a1_5 : Int) (a1_6 : Int) : Option (Bool) := if a0_1 = a1_1 then ((dancestudioref24_end.f a1_0 a1_1 a1_2 a1_3 a1_4 a1_5 a1_6).bind fun t297 => (if a0_2 < t297 then ((dancestudioref24_end.f a0_0 a0_1 a0_2 a0_3 a0_4 a0_5 a0_6).bind fun t298 => (some (decide (a1_2 < t298)))) else (some false))) else (some false)
def dancestudioref24_Common.T1 : Bool × List (List Nat × List Nat) := (true, [([], []), ([0], [0]), ([], []), ([2], [2]), ([1, 3], [1, 3]), ([4], [4]), ([5], [5]), ([6, 5], [5, 6]), ([5], [5]), ([8, 5, 5], [5, 8]), ([7, 9, 5], [5, 7, 9]), ([5, 10], [5, 10]), ([11, 9], [11]), ([12], [12]), ([13, 12], [12, 13]), ([12], [12]), ([15, 12, 12], [12, 15]), ([14, 16, 12], [12, 14, 16]), ([12, 17], [12, 17]), ([18, 16, 0, 1, 2, 3, 4, 5, 6, 7, 8, 9, 10, 11, 12, 13, 14, 15, 16, 17, 18], [18])])
def dancestudioref24_Common.B1 : List Nat := [0, 1, 0, 4, 15, 31, 63, 127, 63, 319, 1023, 2047, 4095, 8191, 16383, 8191, 40959, 131071, 262143, 524287]
theorem dancestudioref24_Common.tab1 : rtab .any (opsOf Try.f63 1) = dancestudioref24_Common.T1 := by kernel_rfl
theorem dancestudioref24_Common.bits1 : waitsOk dancestudioref24_Common.T1.2 dancestudioref24_Common.B1 = true := by kernel_rfl
set_option maxHeartbeats 8000000 in
set_option maxRecDepth 100000 in
theorem dancestudioref24_Common.calls (a0_0 : Int) (a0_1 : Int) (a0_2 : Int) (a0_3 : Int) (a0_4 : Int) (a0_5 : Int) (a0_6 : Int) (a1_0 : Int) (a1_1 : Int) (a1_2 : Int) (a1_3 : Int) (a1_4 : Int) (a1_5 : Int) (a1_6 : Int) (r : Bool) (w : World) (h : dancestudioref24_Common.f a0_0 a0_1 a0_2 a0_3 a0_4 a0_5 a0_6 a1_0 a1_1 a1_2 a1_3 a1_4 a1_5 a1_6 = some r) :
  Calls Try.prog 63 #[.agg #[.int .i64 a0_0, .int .i64 a0_1, .int .i64 a0_2, .int .i64 a0_3, .int .i64 a0_4, .int .i64 a0_5, .int .i64 a0_6], .agg #[.int .i64 a1_0, .int .i64 a1_1, .int .i64 a1_2, .int .i64 a1_3, .int .i64 a1_4, .int .i64 a1_5, .int .i64 a1_6]] w fun e w' => e = .returned (.bool r) ∧ Below w.heap.size w w' := by
 have hu29 := Try.underlying29
 have HB := Aside0.mk (Below.refl w.heap.size w)
 have H : (if a0_1 = a1_1 then ((dancestudioref24_end.f a1_0 a1_1 a1_2 a1_3 a1_4 a1_5 a1_6).bind fun t297 => (if a0_2 < t297 then ((dancestudioref24_end.f a0_0 a0_1 a0_2 a0_3 a0_4 a0_5 a0_6).bind fun t298 => (some (decide (a1_2 < t298)))) else (some false))) else (some false)) = some r := h
 clear h
 by_cases c3 : a0_1 = a1_1
 ·rw [if_pos c3] at H
  have c3b0 : (a0_1 == a1_1) = true := beq_iff_eq.mpr c3
  have c3b1 : (a0_1 != a1_1) = false := bne_eq_false_iff_eq.mpr c3
  clear c3
  replace H := Option.bind_eq_some_iff.mp H
  obtain ⟨t297, A40, H⟩ := H
  try dsimp only at H
  have A4 := Aside0.mk A40
  clear A40
  by_cases c5 : a0_2 < t297
  ·rw [if_pos c5] at H
   have c5b0 : decide (a0_2 < t297) = true := decide_eq_true c5
   clear c5
   replace H := Option.bind_eq_some_iff.mp H
   obtain ⟨t298, A60, H⟩ := H
   replace H : (some (decide (a1_2 < t298))) = some r := H
   have A6 := Aside0.mk A60
   clear A60
   obtain rfl := Option.some.inj H
   go_enter Try.func63, Try.ntmps63
   try go_wp2_with (first | ((with_reducible refine gate_dst (N := 2) rfl ?_); refine box_event ?hg (N := 2) ?hd (cs := #[.int .i64 a0_0, .int .i64 a0_1, .int .i64 a0_2, .int .i64 a0_3, .int .i64 a0_4, .int .i64 a0_5, .int .i64 a0_6]) (t := 29) ?hr ?_; (case hd => rfl); (case hg => rfl); (case hr => first | (go_simp; done) | (go_simp; rfl)); intro gb295 hg w7 hbox hb; have n0_ := Aside0.mk (below_step (hU HB.out) hb); have n1_ := Aside0.mk (hbox); have n2_ := Aside0.mk ((by rw [hg]; exact (below_size (hU HB.out)) : w.heap.size ≤ gb295)); have n3_ := Aside0.mk ((by rw [hg]; exact (below_size (hU HB.out)) : w.heap.size ≤ gb295)); clear HB; have HB := n0_; have BK295 := n1_; have GW295 := n2_; have GE295 := n3_; clear n0_ n1_ n2_ n3_; clear hb hbox hg) | ((with_reducible refine gate_dst (N := 3) rfl ?_); refine box_event ?hg (N := 3) ?hd (cs := #[.int .i64 a1_0, .int .i64 a1_1, .int .i64 a1_2, .int .i64 a1_3, .int .i64 a1_4, .int .i64 a1_5, .int .i64 a1_6]) (t := 29) ?hr ?_; (case hd => rfl); (case hg => rfl); (case hr => first | (go_simp; done) | (go_simp; rfl)); intro gb296 hg w8 hbox hb; have n0_ := Aside0.mk (blk_below (bU BK295.out) hb); have n1_ := Aside0.mk (below_step (hU HB.out) hb); have n2_ := Aside0.mk (hbox); have n3_ := Aside0.mk ((by rw [hg]; exact (below_size (hU HB.out)) : w.heap.size ≤ gb296)); have n4_ := Aside0.mk ((by rw [hg]; exact (below_size (hU HB.out)) : w.heap.size ≤ gb296)); have n5_ := Aside0.mk ((by rw [hg]; exact Nat.ne_of_lt (blk_lt (bU BK295.out)) : gb295 ≠ gb296)); have n6_ := Aside0.mk ((by rw [hg]; exact Nat.ne_of_gt (blk_lt (bU BK295.out)) : gb296 ≠ gb295)); clear BK295; clear HB; have BK295 := n0_; have HB := n1_; have BK296 := n2_; have GW296 := n3_; have GE296 := n4_; have NB295_296 := n5_; have NB296_295 := n6_; clear n0_ n1_ n2_ n3_ n4_ n5_ n6_; clear hb hbox hg))
   have n0_ := Aside0.mk (blk_drew BK295.out)
   have n1_ := Aside0.mk (blk_drew BK296.out)
   have n2_ := Aside0.mk (below_drew1 HB.out)
   clear BK295
   clear BK296
   clear HB
   have BK295 := n0_
   have BK296 := n1_
   have HB := n2_
   clear n0_ n1_ n2_
   refine start_ (n := 20) (S := fun w' => w'.cell? ⟨gb295, 0, none⟩ = some (.int .i64 a0_0) ∧ w'.cell? ⟨gb295, 1, none⟩ = some (.int .i64 a0_1) ∧ w'.cell? ⟨gb295, 2, none⟩ = some (.int .i64 a0_2) ∧ w'.cell? ⟨gb295, 3, none⟩ = some (.int .i64 a0_3) ∧ w'.cell? ⟨gb295, 4, none⟩ = some (.int .i64 a0_4) ∧ w'.cell? ⟨gb295, 5, none⟩ = some (.int .i64 a0_5) ∧ w'.cell? ⟨gb295, 6, none⟩ = some (.int .i64 a0_6) ∧ w'.cell? ⟨gb296, 0, none⟩ = some (.int .i64 a1_0) ∧ w'.cell? ⟨gb296, 1, none⟩ = some (.int .i64 a1_1) ∧ w'.cell? ⟨gb296, 2, none⟩ = some (.int .i64 a1_2) ∧ w'.cell? ⟨gb296, 3, none⟩ = some (.int .i64 a1_3) ∧ w'.cell? ⟨gb296, 4, none⟩ = some (.int .i64 a1_4) ∧ w'.cell? ⟨gb296, 5, none⟩ = some (.int .i64 a1_5) ∧ w'.cell? ⟨gb296, 6, none⟩ = some (.int .i64 a1_6)) (ds := []) #[false, false, false, false, false, false, false, false, false, false, false, false, false, false, false, false, false, false, false, false] (by kernel_rfl) rfl rfl ⟨(blk_cell BK295.out 0).trans rfl, (blk_cell BK295.out 1).trans rfl, (blk_cell BK295.out 2).trans rfl, (blk_cell BK295.out 3).trans rfl, (blk_cell BK295.out 4).trans rfl, (blk_cell BK295.out 5).trans rfl, (blk_cell BK295.out 6).trans rfl, (blk_cell BK296.out 0).trans rfl, (blk_cell BK296.out 1).trans rfl, (blk_cell BK296.out 2).trans rfl, (blk_cell BK296.out 3).trans rfl, (blk_cell BK296.out 4).trans rfl, (blk_cell BK296.out 5).trans rfl, (blk_cell BK296.out 6).trans rfl⟩ (fun hHeld => ?_); refine with_tabW dancestudioref24_Common.tab1 dancestudioref24_Common.bits1 (fun HT_ HW_ => ?_)
   generalize w8.drew = w9 at BK295 BK296 HB hHeld ⊢
   refine puA 0 5 (bs 20 1) ?_
   refine puA 2 7 (bs 20 5) ?_
   refine tkA 1 6 (bs 20 7) hHeld ?_
   refine tkA 3 8 (bs 20 15) hHeld ?_
   refine puA 4 9 (bs 20 31) ?_
   refine puA 5 10 (bs 20 63) ?_
   refine puA 6 11 (bs 20 127) ?_
   refine tkA 7 12 (bs 20 255) hHeld ?_
   refine tkA 8 13 (bs 20 511) hHeld ?_
   refine one_ (i := 9) (N := some 14) (bs 20 1023) rfl rfl (one_of HT_.out (by kernel_rfl)) (by decide) (fun K hK => ?_)
   refine goes_ Try.func57 (by kernel_rfl) rfl #[.agg #[.int .i64 a1_0, .int .i64 a1_1, .int .i64 a1_2, .int .i64 a1_3, .int .i64 a1_4, .int .i64 a1_5, .int .i64 a1_6]] (by rfl) rfl rfl (by (try simp only [List.map_toArray, List.map_cons, List.map_nil]); first | done | rfl | (simp only [List.length_drop, List.length_take]; rfl)) ?_
   with_reducible refine (dancestudioref24_end.calls a1_0 a1_1 a1_2 a1_3 a1_4 a1_5 a1_6 t297 _ A4.out).mono ?_
   rintro e w10 ⟨rfl, hb⟩
   refine ⟨_, rfl, ?_⟩
   have n0_ := Aside0.mk (blk_below (bU BK295.out) hb)
   have n1_ := Aside0.mk (blk_below (bU BK296.out) hb)
   have n2_ := Aside0.mk (below_step (hU HB.out) hb)
   clear BK295
   clear BK296
   clear HB
   have BK295 := n0_
   have BK296 := n1_
   have HB := n2_
   clear n0_ n1_ n2_
   (try clear hb)
   (try clear hb2)
   (try clear hk)
   (try clear hi)
   refine hK.out _ _ ⟨(blk_cell BK295.out 0).trans rfl, (blk_cell BK295.out 1).trans rfl, (blk_cell BK295.out 2).trans rfl, (blk_cell BK295.out 3).trans rfl, (blk_cell BK295.out 4).trans rfl, (blk_cell BK295.out 5).trans rfl, (blk_cell BK295.out 6).trans rfl, (blk_cell BK296.out 0).trans rfl, (blk_cell BK296.out 1).trans rfl, (blk_cell BK296.out 2).trans rfl, (blk_cell BK296.out 3).trans rfl, (blk_cell BK296.out 4).trans rfl, (blk_cell BK296.out 5).trans rfl, (blk_cell BK296.out 6).trans rfl⟩ (fun hHeld => ?_)
   clear hK K
   refine nmA 14 ?_
   refine puA 10 15 (bs 20 2047) ?_
   refine puA 11 16 (bs 20 4095) ?_
   refine puA 12 17 (bs 20 8191) ?_
   refine puA 13 18 (bs 20 16383) ?_
   refine tkA 14 19 (bs 20 32767) hHeld ?_
   refine tkA 15 20 (bs 20 65535) hHeld ?_
   refine one_ (i := 16) (N := some 21) (bs 20 131071) rfl rfl (one_of HT_.out (by kernel_rfl)) (by decide) (fun K hK => ?_)
   refine goes_ Try.func57 (by kernel_rfl) rfl #[.agg #[.int .i64 a0_0, .int .i64 a0_1, .int .i64 a0_2, .int .i64 a0_3, .int .i64 a0_4, .int .i64 a0_5, .int .i64 a0_6]] (by rfl) rfl rfl (by (try simp only [List.map_toArray, List.map_cons, List.map_nil]); first | done | rfl | (simp only [List.length_drop, List.length_take]; rfl)) ?_
   with_reducible refine (dancestudioref24_end.calls a0_0 a0_1 a0_2 a0_3 a0_4 a0_5 a0_6 t298 _ A6.out).mono ?_
   rintro e w11 ⟨rfl, hb⟩
   refine ⟨_, rfl, ?_⟩
   have n0_ := Aside0.mk (blk_below (bU BK295.out) hb)
   have n1_ := Aside0.mk (blk_below (bU BK296.out) hb)
   have n2_ := Aside0.mk (below_step (hU HB.out) hb)
   clear BK295
   clear BK296
   clear HB
   have BK295 := n0_
   have BK296 := n1_
   have HB := n2_
   clear n0_ n1_ n2_
   (try clear hb)
   (try clear hb2)
   (try clear hk)
   (try clear hi)
   refine hK.out _ _ ⟨(blk_cell BK295.out 0).trans rfl, (blk_cell BK295.out 1).trans rfl, (blk_cell BK295.out 2).trans rfl, (blk_cell BK295.out 3).trans rfl, (blk_cell BK295.out 4).trans rfl, (blk_cell BK295.out 5).trans rfl, (blk_cell BK295.out 6).trans rfl, (blk_cell BK296.out 0).trans rfl, (blk_cell BK296.out 1).trans rfl, (blk_cell BK296.out 2).trans rfl, (blk_cell BK296.out 3).trans rfl, (blk_cell BK296.out 4).trans rfl, (blk_cell BK296.out 5).trans rfl, (blk_cell BK296.out 6).trans rfl⟩ (fun hHeld => ?_)
   clear hK K
   refine nmA 21 ?_
   refine puA 17 22 (bs 20 262143) ?_
   refine puA 18 23 (bs 20 524287) ?_
   refine puA 19 4 (bs 20 1048575) ?_
   refine done_ (done_of HT_.out (by kernel_rfl)) ?_
   try go_wp2
   go_ret
   exact ⟨by first | rfl | (simp [errW_none, errW_some] <;> rfl) | (simp [*, errW_none, errW_some] <;> rfl), hU HB.out⟩
  ·rw [if_neg c5] at H
   have c5b0 : decide (a0_2 < t297) = false := decide_eq_false c5
   clear c5
   obtain rfl := Option.some.inj H
   go_enter Try.func63, Try.ntmps63
   try go_wp2_with (first | ((with_reducible refine gate_dst (N := 2) rfl ?_); refine box_event ?hg (N := 2) ?hd (cs := #[.int .i64 a0_0, .int .i64 a0_1, .int .i64 a0_2, .int .i64 a0_3, .int .i64 a0_4, .int .i64 a0_5, .int .i64 a0_6]) (t := 29) ?hr ?_; (case hd => rfl); (case hg => rfl); (case hr => first | (go_simp; done) | (go_simp; rfl)); intro gb295 hg w12 hbox hb; have n0_ := Aside0.mk (below_step (hU HB.out) hb); have n1_ := Aside0.mk (hbox); have n2_ := Aside0.mk ((by rw [hg]; exact (below_size (hU HB.out)) : w.heap.size ≤ gb295)); have n3_ := Aside0.mk ((by rw [hg]; exact (below_size (hU HB.out)) : w.heap.size ≤ gb295)); clear HB; have HB := n0_; have BK295 := n1_; have GW295 := n2_; have GE295 := n3_; clear n0_ n1_ n2_ n3_; clear hb hbox hg) | ((with_reducible refine gate_dst (N := 3) rfl ?_); refine box_event ?hg (N := 3) ?hd (cs := #[.int .i64 a1_0, .int .i64 a1_1, .int .i64 a1_2, .int .i64 a1_3, .int .i64 a1_4, .int .i64 a1_5, .int .i64 a1_6]) (t := 29) ?hr ?_; (case hd => rfl); (case hg => rfl); (case hr => first | (go_simp; done) | (go_simp; rfl)); intro gb296 hg w13 hbox hb; have n0_ := Aside0.mk (blk_below (bU BK295.out) hb); have n1_ := Aside0.mk (below_step (hU HB.out) hb); have n2_ := Aside0.mk (hbox); have n3_ := Aside0.mk ((by rw [hg]; exact (below_size (hU HB.out)) : w.heap.size ≤ gb296)); have n4_ := Aside0.mk ((by rw [hg]; exact (below_size (hU HB.out)) : w.heap.size ≤ gb296)); have n5_ := Aside0.mk ((by rw [hg]; exact Nat.ne_of_lt (blk_lt (bU BK295.out)) : gb295 ≠ gb296)); have n6_ := Aside0.mk ((by rw [hg]; exact Nat.ne_of_gt (blk_lt (bU BK295.out)) : gb296 ≠ gb295)); clear BK295; clear HB; have BK295 := n0_; have HB := n1_; have BK296 := n2_; have GW296 := n3_; have GE296 := n4_; have NB295_296 := n5_; have NB296_295 := n6_; clear n0_ n1_ n2_ n3_ n4_ n5_ n6_; clear hb hbox hg))
   have n0_ := Aside0.mk (blk_drew BK295.out)
   have n1_ := Aside0.mk (blk_drew BK296.out)
   have n2_ := Aside0.mk (below_drew1 HB.out)
   clear BK295
   clear BK296
   clear HB
   have BK295 := n0_
   have BK296 := n1_
   have HB := n2_
   clear n0_ n1_ n2_
   refine start_ (n := 20) (S := fun w' => w'.cell? ⟨gb295, 0, none⟩ = some (.int .i64 a0_0) ∧ w'.cell? ⟨gb295, 1, none⟩ = some (.int .i64 a0_1) ∧ w'.cell? ⟨gb295, 2, none⟩ = some (.int .i64 a0_2) ∧ w'.cell? ⟨gb295, 3, none⟩ = some (.int .i64 a0_3) ∧ w'.cell? ⟨gb295, 4, none⟩ = some (.int .i64 a0_4) ∧ w'.cell? ⟨gb295, 5, none⟩ = some (.int .i64 a0_5) ∧ w'.cell? ⟨gb295, 6, none⟩ = some (.int .i64 a0_6) ∧ w'.cell? ⟨gb296, 0, none⟩ = some (.int .i64 a1_0) ∧ w'.cell? ⟨gb296, 1, none⟩ = some (.int .i64 a1_1) ∧ w'.cell? ⟨gb296, 2, none⟩ = some (.int .i64 a1_2) ∧ w'.cell? ⟨gb296, 3, none⟩ = some (.int .i64 a1_3) ∧ w'.cell? ⟨gb296, 4, none⟩ = some (.int .i64 a1_4) ∧ w'.cell? ⟨gb296, 5, none⟩ = some (.int .i64 a1_5) ∧ w'.cell? ⟨gb296, 6, none⟩ = some (.int .i64 a1_6)) (ds := []) #[false, false, false, false, false, false, false, false, false, false, false, false, false, false, false, false, false, false, false, false] (by kernel_rfl) rfl rfl ⟨(blk_cell BK295.out 0).trans rfl, (blk_cell BK295.out 1).trans rfl, (blk_cell BK295.out 2).trans rfl, (blk_cell BK295.out 3).trans rfl, (blk_cell BK295.out 4).trans rfl, (blk_cell BK295.out 5).trans rfl, (blk_cell BK295.out 6).trans rfl, (blk_cell BK296.out 0).trans rfl, (blk_cell BK296.out 1).trans rfl, (blk_cell BK296.out 2).trans rfl, (blk_cell BK296.out 3).trans rfl, (blk_cell BK296.out 4).trans rfl, (blk_cell BK296.out 5).trans rfl, (blk_cell BK296.out 6).trans rfl⟩ (fun hHeld => ?_); refine with_tabW dancestudioref24_Common.tab1 dancestudioref24_Common.bits1 (fun HT_ HW_ => ?_)
   generalize w13.drew = w14 at BK295 BK296 HB hHeld ⊢
   refine puA 0 5 (bs 20 1) ?_
   refine puA 2 7 (bs 20 5) ?_
   refine tkA 1 6 (bs 20 7) hHeld ?_
   refine tkA 3 8 (bs 20 15) hHeld ?_
   refine puA 4 9 (bs 20 31) ?_
   refine puA 5 10 (bs 20 63) ?_
   refine puA 6 11 (bs 20 127) ?_
   refine tkA 7 12 (bs 20 255) hHeld ?_
   refine tkA 8 13 (bs 20 511) hHeld ?_
   refine one_ (i := 9) (N := some 14) (bs 20 1023) rfl rfl (one_of HT_.out (by kernel_rfl)) (by decide) (fun K hK => ?_)
   refine goes_ Try.func57 (by kernel_rfl) rfl #[.agg #[.int .i64 a1_0, .int .i64 a1_1, .int .i64 a1_2, .int .i64 a1_3, .int .i64 a1_4, .int .i64 a1_5, .int .i64 a1_6]] (by rfl) rfl rfl (by (try simp only [List.map_toArray, List.map_cons, List.map_nil]); first | done | rfl | (simp only [List.length_drop, List.length_take]; rfl)) ?_
   with_reducible refine (dancestudioref24_end.calls a1_0 a1_1 a1_2 a1_3 a1_4 a1_5 a1_6 t297 _ A4.out).mono ?_
   rintro e w15 ⟨rfl, hb⟩
   refine ⟨_, rfl, ?_⟩
   have n0_ := Aside0.mk (blk_below (bU BK295.out) hb)
   have n1_ := Aside0.mk (blk_below (bU BK296.out) hb)
   have n2_ := Aside0.mk (below_step (hU HB.out) hb)
   clear BK295
   clear BK296
   clear HB
   have BK295 := n0_
   have BK296 := n1_
   have HB := n2_
   clear n0_ n1_ n2_
   (try clear hb)
   (try clear hb2)
   (try clear hk)
   (try clear hi)
   refine hK.out _ _ ⟨(blk_cell BK295.out 0).trans rfl, (blk_cell BK295.out 1).trans rfl, (blk_cell BK295.out 2).trans rfl, (blk_cell BK295.out 3).trans rfl, (blk_cell BK295.out 4).trans rfl, (blk_cell BK295.out 5).trans rfl, (blk_cell BK295.out 6).trans rfl, (blk_cell BK296.out 0).trans rfl, (blk_cell BK296.out 1).trans rfl, (blk_cell BK296.out 2).trans rfl, (blk_cell BK296.out 3).trans rfl, (blk_cell BK296.out 4).trans rfl, (blk_cell BK296.out 5).trans rfl, (blk_cell BK296.out 6).trans rfl⟩ (fun hHeld => ?_)
   clear hK K
   refine nmA 14 ?_
   refine puA 10 15 (bs 20 2047) ?_
   refine puA 11 16 (bs 20 4095) ?_
   refine puA 12 17 (bs 20 8191) ?_
   refine skA 13 18 (bs 20 16383) ?_
   refine skA 14 19 (bs 20 32767) ?_
   refine skA 15 20 (bs 20 65535) ?_
   refine skA 16 21 (bs 20 131071) ?_
   refine skA 17 22 (bs 20 262143) ?_
   refine puA 18 23 (bs 20 524287) ?_
   refine puA 19 4 (bs 20 1048575) ?_
   refine done_ (done_of HT_.out (by kernel_rfl)) ?_
   try go_wp2
   go_ret
   exact ⟨by first | rfl | (simp [errW_none, errW_some] <;> rfl) | (simp [*, errW_none, errW_some] <;> rfl), hU HB.out⟩
 ·rw [if_neg c3] at H
  have c3b0 : (a0_1 == a1_1) = false := beq_eq_false_iff_ne.mpr c3
  have c3b1 : (a0_1 != a1_1) = true := bne_iff_ne.mpr c3
  obtain rfl := Option.some.inj H
  go_enter Try.func63, Try.ntmps63
  try go_wp2_with (first | ((with_reducible refine gate_dst (N := 2) rfl ?_); refine box_event ?hg (N := 2) ?hd (cs := #[.int .i64 a0_0, .int .i64 a0_1, .int .i64 a0_2, .int .i64 a0_3, .int .i64 a0_4, .int .i64 a0_5, .int .i64 a0_6]) (t := 29) ?hr ?_; (case hd => rfl); (case hg => rfl); (case hr => first | (go_simp; done) | (go_simp; rfl)); intro gb295 hg w16 hbox hb; have n0_ := Aside0.mk (below_step (hU HB.out) hb); have n1_ := Aside0.mk (hbox); have n2_ := Aside0.mk ((by rw [hg]; exact (below_size (hU HB.out)) : w.heap.size ≤ gb295)); have n3_ := Aside0.mk ((by rw [hg]; exact (below_size (hU HB.out)) : w.heap.size ≤ gb295)); clear HB; have HB := n0_; have BK295 := n1_; have GW295 := n2_; have GE295 := n3_; clear n0_ n1_ n2_ n3_; clear hb hbox hg) | ((with_reducible refine gate_dst (N := 3) rfl ?_); refine box_event ?hg (N := 3) ?hd (cs := #[.int .i64 a1_0, .int .i64 a1_1, .int .i64 a1_2, .int .i64 a1_3, .int .i64 a1_4, .int .i64 a1_5, .int .i64 a1_6]) (t := 29) ?hr ?_; (case hd => rfl); (case hg => rfl); (case hr => first | (go_simp; done) | (go_simp; rfl)); intro gb296 hg w17 hbox hb; have n0_ := Aside0.mk (blk_below (bU BK295.out) hb); have n1_ := Aside0.mk (below_step (hU HB.out) hb); have n2_ := Aside0.mk (hbox); have n3_ := Aside0.mk ((by rw [hg]; exact (below_size (hU HB.out)) : w.heap.size ≤ gb296)); have n4_ := Aside0.mk ((by rw [hg]; exact (below_size (hU HB.out)) : w.heap.size ≤ gb296)); have n5_ := Aside0.mk ((by rw [hg]; exact Nat.ne_of_lt (blk_lt (bU BK295.out)) : gb295 ≠ gb296)); have n6_ := Aside0.mk ((by rw [hg]; exact Nat.ne_of_gt (blk_lt (bU BK295.out)) : gb296 ≠ gb295)); clear BK295; clear HB; have BK295 := n0_; have HB := n1_; have BK296 := n2_; have GW296 := n3_; have GE296 := n4_; have NB295_296 := n5_; have NB296_295 := n6_; clear n0_ n1_ n2_ n3_ n4_ n5_ n6_; clear hb hbox hg))
  have n0_ := Aside0.mk (blk_drew BK295.out)
  have n1_ := Aside0.mk (blk_drew BK296.out)
  have n2_ := Aside0.mk (below_drew1 HB.out)
  clear BK295
  clear BK296
  clear HB
  have BK295 := n0_
  have BK296 := n1_
  have HB := n2_
  clear n0_ n1_ n2_
  refine start_ (n := 20) (S := fun w' => w'.cell? ⟨gb295, 0, none⟩ = some (.int .i64 a0_0) ∧ w'.cell? ⟨gb295, 1, none⟩ = some (.int .i64 a0_1) ∧ w'.cell? ⟨gb295, 2, none⟩ = some (.int .i64 a0_2) ∧ w'.cell? ⟨gb295, 3, none⟩ = some (.int .i64 a0_3) ∧ w'.cell? ⟨gb295, 4, none⟩ = some (.int .i64 a0_4) ∧ w'.cell? ⟨gb295, 5, none⟩ = some (.int .i64 a0_5) ∧ w'.cell? ⟨gb295, 6, none⟩ = some (.int .i64 a0_6) ∧ w'.cell? ⟨gb296, 0, none⟩ = some (.int .i64 a1_0) ∧ w'.cell? ⟨gb296, 1, none⟩ = some (.int .i64 a1_1) ∧ w'.cell? ⟨gb296, 2, none⟩ = some (.int .i64 a1_2) ∧ w'.cell? ⟨gb296, 3, none⟩ = some (.int .i64 a1_3) ∧ w'.cell? ⟨gb296, 4, none⟩ = some (.int .i64 a1_4) ∧ w'.cell? ⟨gb296, 5, none⟩ = some (.int .i64 a1_5) ∧ w'.cell? ⟨gb296, 6, none⟩ = some (.int .i64 a1_6)) (ds := []) #[false, false, false, false, false, false, false, false, false, false, false, false, false, false, false, false, false, false, false, false] (by kernel_rfl) rfl rfl ⟨(blk_cell BK295.out 0).trans rfl, (blk_cell BK295.out 1).trans rfl, (blk_cell BK295.out 2).trans rfl, (blk_cell BK295.out 3).trans rfl, (blk_cell BK295.out 4).trans rfl, (blk_cell BK295.out 5).trans rfl, (blk_cell BK295.out 6).trans rfl, (blk_cell BK296.out 0).trans rfl, (blk_cell BK296.out 1).trans rfl, (blk_cell BK296.out 2).trans rfl, (blk_cell BK296.out 3).trans rfl, (blk_cell BK296.out 4).trans rfl, (blk_cell BK296.out 5).trans rfl, (blk_cell BK296.out 6).trans rfl⟩ (fun hHeld => ?_); refine with_tabW dancestudioref24_Common.tab1 dancestudioref24_Common.bits1 (fun HT_ HW_ => ?_)
  generalize w17.drew = w18 at BK295 BK296 HB hHeld ⊢
  refine puA 0 5 (bs 20 1) ?_
  refine puA 2 7 (bs 20 5) ?_
  refine tkA 1 6 (bs 20 7) hHeld ?_
  refine tkA 3 8 (bs 20 15) hHeld ?_
  refine puA 4 9 (bs 20 31) ?_
  refine puA 5 10 (bs 20 63) ?_
  refine skA 6 11 (bs 20 127) ?_
  refine skA 7 12 (bs 20 255) ?_
  refine skA 8 13 (bs 20 511) ?_
  refine skA 9 14 (bs 20 1023) ?_
  refine skA 10 15 (bs 20 2047) ?_
  refine puA 11 16 (bs 20 4095) ?_
  refine puA 12 17 (bs 20 8191) ?_
  refine skA 13 18 (bs 20 16383) ?_
  refine skA 14 19 (bs 20 32767) ?_
  refine skA 15 20 (bs 20 65535) ?_
  refine skA 16 21 (bs 20 131071) ?_
  refine skA 17 22 (bs 20 262143) ?_
  refine puA 18 23 (bs 20 524287) ?_
  refine puA 19 4 (bs 20 1048575) ?_
  refine done_ (done_of HT_.out (by kernel_rfl)) ?_
  try go_wp2
  go_ret
  exact ⟨by first | rfl | (simp [errW_none, errW_some] <;> rfl) | (simp [*, errW_none, errW_some] <;> rfl), hU HB.out⟩

end Go.Proofs.Ytdilndbanhianaa.P

-- Written by a program of this session (myprint.py over the kit's print): the Go functions of the seat as Lean functions, and what their calls do.
import Derived.Test.YtdilndbanhianaaUReg
import Derived.Test.YtdilndbanhianaaUMA
import Derived.Test.YtdilndbanhianaaUME
import Derived.Test.YtdilndbanhianaaUIter
import Derived.Test.YtdilndbanhianaaUAt
import Derived.Test.YtdilndbanhianaaUColumn
import Derived.Test.YtdilndbanhianaaUPut
import Derived.Test.YtdilndbanhianaaUMC
namespace Go.Proofs.Ytdilndbanhianaa.P
open Go.RowKit Go.Proofs.YtdilndbanhianaaW.PrintWords Go.Proofs.YtdilndbanhianaaW.PrintLast Go.Proofs.YtdilndbanhianaaW.PrintMore
attribute [local go_sem] max2_int min2_int max_two min_two max_three min_three max_four min_four   -- for this text's walks alone
set_option linter.unusedVariables false
set_option linter.unusedSimpArgs false

/-! ### dancestudiolaw24_StaffTakes: function 10 -/
def dancestudiolaw24_StaffTakes.l0 : Nat → List (S29) → Int → Int → Option (Bool)
 | 0, _, _, _ => none
 | k + 1, x0, x1, x11 => if x11 < (x0.length : Int) then (if 0 ≤ x11 then ((staff_Take.f x0 x1 ((rd_T29 x0 x11).f1) ((rd_T29 x0 x11).f2)).bind fun bt478 => ((staff_Put.f bt478.1 x1 ((rd_T29 x0 x11).f0) ((rd_T29 x0 x11).f1) ((rd_T29 x0 x11).f2) ((rd_T29 x0 x11).f3) ((rd_T29 x0 x11).f4) ((rd_T29 x0 x11).f5) ((rd_T29 x0 x11).f6)).bind fun bt483 => (if bt478.2 = 0 then (if bt483.2 = 0 then (if (bt478.1.length : Int) = (wrap64 ((x0.length : Int) - 1)) then ((dancestudioref24_Same.f k bt483.1 x0).bind fun t487 => (if t487 = true then (dancestudiolaw24_StaffTakes.l0 k x0 x1 (wrap64 (x11 + 1))) else (none))) else (none)) else (none)) else (none)))) else (none)) else ((dancestudiolaw24_awake.f k).bind fun t488 => (some t488))
def dancestudiolaw24_StaffTakes.f (k : Nat) (l0 : List (S29)) (a1 : Int) (a2_0 : Int) (a2_1 : Int) (a2_2 : Int) (a2_3 : Int) (a2_4 : Int) (a2_5 : Int) (a2_6 : Int) : Option (Bool) := if (l0.length : Int) > 60 then ((dancestudiolaw24_awake.f k).bind fun t464 => (some t464)) else ((staff_Check.f l0 a1).bind fun t465 => (if t465 = 0 then ((staff_Put.f l0 a1 a2_0 a2_1 a2_2 a2_3 a2_4 a2_5 a2_6).bind fun bt466 => (if bt466.2 = 0 then ((staff_Take.f bt466.1 a1 a2_1 a2_2).bind fun bt470 => (if bt470.2 = 0 then ((dancestudioref24_Same.f k bt470.1 l0).bind fun t474 => (if t474 = true then (if (bt466.1.length : Int) = (wrap64 ((l0.length : Int) + 1)) then ((staff_Check.f bt466.1 a1).bind fun t475 => (if t475 = 0 then (dancestudiolaw24_StaffTakes.l0 k l0 a1 0) else (none))) else (none)) else (none))) else (none))) else (if (bt466.1.length : Int) = 0 then (dancestudiolaw24_StaffTakes.l0 k l0 a1 0) else (none)))) else ((dancestudiolaw24_awake.f k).bind fun t489 => (some t489))))
theorem dancestudiolaw24_StaffTakes.mono_l : ∀ k, (∀ y0 y1 y2, LeO (dancestudiolaw24_StaffTakes.l0 k y0 y1 y2) (dancestudiolaw24_StaffTakes.l0 (k + 1) y0 y1 y2))
 | 0 => fun _ _ _ r h => by simp [dancestudiolaw24_StaffTakes.l0] at h
 | k + 1 => by
  have ih0 := dancestudiolaw24_StaffTakes.mono_l k
  ·intro y0 y1 y2
   unfold dancestudiolaw24_StaffTakes.l0
   repeat' first
   | (with_reducible exact ih0 _ _ _)
   | (with_reducible exact dancestudiolaw24_awake.mono _)
   | (with_reducible exact dancestudioref24_Same.mono _ _ _)
   | (with_reducible exact LeO.refl _)
   | (with_reducible exact LeO.none _)
   | (with_reducible refine LeO.ite ?_ ?_)
   | (with_reducible refine LeO.bind ?_ (fun _ => ?_))
   | exact ih0 _ _ _
   | exact dancestudiolaw24_awake.mono _
   | exact dancestudioref24_Same.mono _ _ _
   | exact LeO.none _
   | refine LeO.ite ?_ ?_
   | refine LeO.bind ?_ (fun _ => ?_)
theorem dancestudiolaw24_StaffTakes.mono : ∀ a0 a1 a2 a3 a4 a5 a6 a7 a8 k, LeO (dancestudiolaw24_StaffTakes.f k a0 a1 a2 a3 a4 a5 a6 a7 a8) (dancestudiolaw24_StaffTakes.f (k + 1) a0 a1 a2 a3 a4 a5 a6 a7 a8) := by
 intro a0 a1 a2 a3 a4 a5 a6 a7 a8 k
 have ih0 := dancestudiolaw24_StaffTakes.mono_l k
 unfold dancestudiolaw24_StaffTakes.f
 repeat' first
   | (with_reducible exact ih0 _ _ _)
   | (with_reducible exact dancestudiolaw24_awake.mono _)
   | (with_reducible exact dancestudioref24_Same.mono _ _ _)
   | (with_reducible exact LeO.refl _)
   | (with_reducible exact LeO.none _)
   | (with_reducible refine LeO.ite ?_ ?_)
   | (with_reducible refine LeO.bind ?_ (fun _ => ?_))
   | exact ih0 _ _ _
   | exact dancestudiolaw24_awake.mono _
   | exact dancestudioref24_Same.mono _ _ _
   | exact LeO.none _
   | refine LeO.ite ?_ ?_
   | refine LeO.bind ?_ (fun _ => ?_)
def dancestudiolaw24_StaffTakes.T13 : Bool × List (List Nat × List Nat) := (true, [([], []), ([], []), ([], []), ([], []), ([2, 3], [2, 3]), ([4], [4]), ([5], [5]), ([], []), ([], []), ([7, 8], [7, 8]), ([9], [9]), ([10], [10]), ([0, 1, 6, 11], [0, 1, 6, 11]), ([12], [12]), ([13], [13]), ([13], [13]), ([14, 12, 0, 1, 2, 3, 4, 5, 6, 7, 8, 9, 10, 11, 12, 13, 14], [14]), ([15, 16, 0, 1, 2, 3, 4, 5, 6, 7, 8, 9, 10, 11, 12, 13, 14, 15, 16], [15])])
def dancestudiolaw24_StaffTakes.B13 : List Nat := [0, 0, 0, 0, 12, 28, 60, 0, 0, 384, 896, 1920, 4095, 8191, 16383, 16383, 32767, 131071]
theorem dancestudiolaw24_StaffTakes.tab13 : rtab .any (opsOf Try.f10 13) = dancestudiolaw24_StaffTakes.T13 := by kernel_rfl
theorem dancestudiolaw24_StaffTakes.bits13 : waitsOk dancestudiolaw24_StaffTakes.T13.2 dancestudiolaw24_StaffTakes.B13 = true := by kernel_rfl
set_option maxHeartbeats 8000000 in
set_option maxRecDepth 100000 in
theorem dancestudiolaw24_StaffTakes.calls (k : Nat) (A0 : Option Addr) (c0 : Nat) (l0 : List (S29)) (a1 : Int) (a2_0 : Int) (a2_1 : Int) (a2_2 : Int) (a2_3 : Int) (a2_4 : Int) (a2_5 : Int) (a2_6 : Int) (r : Bool) (w : World) (hr0 : Kd.C k29 w A0 l0.length l0) (hc0 : l0.length ≤ c0) (h : dancestudiolaw24_StaffTakes.f k l0 a1 a2_0 a2_1 a2_2 a2_3 a2_4 a2_5 a2_6 = some r) :
  Calls Try.prog 10 #[.slice A0 l0.length c0, .int .i64 a1, .agg #[.int .i64 a2_0, .int .i64 a2_1, .int .i64 a2_2, .int .i64 a2_3, .int .i64 a2_4, .int .i64 a2_5, .int .i64 a2_6]] w fun e w' => e = .returned (.bool r) ∧ Below w.heap.size w w' := by
 have hu29 := Try.underlying29
 have HR0 := Aside0.mk hr0
 have HC0 := Aside0.mk hc0
 clear hr0 hc0
 have HB := Aside0.mk (Below.refl w.heap.size w)
 have H : (if (l0.length : Int) > 60 then ((dancestudiolaw24_awake.f k).bind fun t464 => (some t464)) else ((staff_Check.f l0 a1).bind fun t465 => (if t465 = 0 then ((staff_Put.f l0 a1 a2_0 a2_1 a2_2 a2_3 a2_4 a2_5 a2_6).bind fun bt466 => (if bt466.2 = 0 then ((staff_Take.f bt466.1 a1 a2_1 a2_2).bind fun bt470 => (if bt470.2 = 0 then ((dancestudioref24_Same.f k bt470.1 l0).bind fun t474 => (if t474 = true then (if (bt466.1.length : Int) = (wrap64 ((l0.length : Int) + 1)) then ((staff_Check.f bt466.1 a1).bind fun t475 => (if t475 = 0 then (dancestudiolaw24_StaffTakes.l0 k l0 a1 0) else (none))) else (none)) else (none))) else (none))) else (if (bt466.1.length : Int) = 0 then (dancestudiolaw24_StaffTakes.l0 k l0 a1 0) else (none)))) else ((dancestudiolaw24_awake.f k).bind fun t489 => (some t489))))) = some r := h
 clear h
 by_cases c4 : (l0.length : Int) > 60
 ·rw [if_pos c4] at H
  have c4b0 : decide (60 < (l0.length : Int)) = true := decide_eq_true c4
  have c4b1 : decide (60 < l0.length) = true := decide_eq_true (by omega)
  clear c4
  replace H := Option.bind_eq_some_iff.mp H
  obtain ⟨t464, A50, H⟩ := H
  replace H : (some t464) = some r := H
  have A5 := Aside0.mk A50
  clear A50
  obtain rfl := Option.some.inj H
  go_enter Try.func10, Try.ntmps10
  go_wp2_with (first | ((with_reducible refine gate_dst (N := 5) rfl ?_); (try (refine gate_guard (by rfl) ?_; dsimp only)); refine box_event ?hg (N := 5) ?hd (cs := #[.int .i64 a2_0, .int .i64 a2_1, .int .i64 a2_2, .int .i64 a2_3, .int .i64 a2_4, .int .i64 a2_5, .int .i64 a2_6]) (t := 29) ?hr ?_; (case hd => rfl); (case hg => rfl); (case hr => first | (go_simp; done) | (go_simp; rfl)); intro gb463 hg w6 hbox hb; have n0_ := Aside0.mk (below_step (hU HB.out) hb); have n1_ := Aside0.mk (hbox); have n2_ := Aside0.mk ((by rw [hg]; exact (below_size (hU HB.out)) : w.heap.size ≤ gb463)); have n3_ := Aside0.mk ((by rw [hg]; exact (below_size (hU HB.out)) : w.heap.size ≤ gb463)); clear HB; have HB := n0_; have BK463 := n1_; have GW463 := n2_; have GE463 := n3_; clear n0_ n1_ n2_ n3_; clear hb hbox hg) | ((with_reducible refine gate_callee (f := 22) rfl ?_); refine goesL_ (some 25) rfl rfl Try.func22 (by kernel_rfl) rfl #[] rfl (by (try simp only [List.map_toArray, List.map_cons, List.map_nil]); first | done | rfl | (simp only [List.length_drop, List.length_take]; rfl)) ?_; (with_reducible refine (dancestudiolaw24_awake.calls k  t464 _ A5.out).mono ?_); rintro e w7 ⟨rfl, hb⟩; refine ⟨_, rfl, ?_⟩; have n0_ := Aside0.mk (blk_below (bU BK463.out) hb); have n1_ := Aside0.mk (below_step (hU HB.out) hb); clear BK463; clear HB; have BK463 := n0_; have HB := n1_; clear n0_ n1_; (try clear hb); (try clear hb2); (try clear hk); (try clear hi)))
  go_ret
  exact ⟨by first | rfl | (simp [errW_none, errW_some] <;> rfl) | (simp [*, errW_none, errW_some] <;> rfl), hU HB.out⟩
 ·rw [if_neg c4] at H
  have c4b0 : decide (60 < (l0.length : Int)) = false := decide_eq_false c4
  have c4b1 : decide (60 < l0.length) = false := decide_eq_false (by omega)
  clear c4
  replace H := Option.bind_eq_some_iff.mp H
  obtain ⟨t465, A80, H⟩ := H
  try dsimp only at H
  have A8 := Aside0.mk A80
  clear A80
  by_cases c9 : t465 = 0
  ·rw [if_pos c9] at H
   have c9b0 : (t465 == 0) = true := beq_iff_eq.mpr c9
   have c9b1 : (t465 != 0) = false := bne_eq_false_iff_eq.mpr c9
   clear c9
   replace H := Option.bind_eq_some_iff.mp H
   obtain ⟨⟨t466, t469⟩, A100, H⟩ := H
   try dsimp only at H
   have A10 := Aside0.mk A100
   clear A100
   by_cases c11 : t469 = 0
   ·rw [if_pos c11] at H
    have c11b0 : (t469 == 0) = true := beq_iff_eq.mpr c11
    have c11b1 : (t469 != 0) = false := bne_eq_false_iff_eq.mpr c11
    clear c11
    replace H := Option.bind_eq_some_iff.mp H
    obtain ⟨⟨t470, t471⟩, A120, H⟩ := H
    try dsimp only at H
    have A12 := Aside0.mk A120
    clear A120
    by_cases c13 : t471 = 0
    ·rw [if_pos c13] at H
     have c13b0 : (t471 == 0) = true := beq_iff_eq.mpr c13
     have c13b1 : (t471 != 0) = false := bne_eq_false_iff_eq.mpr c13
     clear c13
     replace H := Option.bind_eq_some_iff.mp H
     obtain ⟨t474, A140, H⟩ := H
     try dsimp only at H
     have A14 := Aside0.mk A140
     clear A140
     by_cases c15 : t474 = true
     ·subst c15
      rw [if_pos rfl] at H
      by_cases c16 : (t466.length : Int) = (wrap64 ((l0.length : Int) + 1))
      ·rw [if_pos c16] at H
       have c16b0 : ((t466.length : Int) == (wrap64 ((l0.length : Int) + 1))) = true := beq_iff_eq.mpr c16
       have c16b1 : ((t466.length : Int) != (wrap64 ((l0.length : Int) + 1))) = false := bne_eq_false_iff_eq.mpr c16
       clear c16
       replace H := Option.bind_eq_some_iff.mp H
       obtain ⟨t475, A170, H⟩ := H
       replace H : (if t475 = 0 then (dancestudiolaw24_StaffTakes.l0 k l0 a1 0) else (none)) = some r := H
       have A17 := Aside0.mk A170
       clear A170
       by_cases c18 : t475 = 0
       ·rw [if_pos c18] at H
        have c18b0 : (t475 == 0) = true := beq_iff_eq.mpr c18
        have c18b1 : (t475 != 0) = false := bne_eq_false_iff_eq.mpr c18
        clear c18
        have H' := Aside0.mk H
        clear H
        go_enter Try.func10, Try.ntmps10
        go_wp2_with (first | ((with_reducible refine gate_dst (N := 5) rfl ?_); (try (refine gate_guard (by rfl) ?_; dsimp only)); refine box_event ?hg (N := 5) ?hd (cs := #[.int .i64 a2_0, .int .i64 a2_1, .int .i64 a2_2, .int .i64 a2_3, .int .i64 a2_4, .int .i64 a2_5, .int .i64 a2_6]) (t := 29) ?hr ?_; (case hd => rfl); (case hg => rfl); (case hr => first | (go_simp; done) | (go_simp; rfl)); intro gb463 hg w19 hbox hb; have n0_ := Aside0.mk (below_step (hU HB.out) hb); have n1_ := Aside0.mk (hbox); have n2_ := Aside0.mk ((by rw [hg]; exact (below_size (hU HB.out)) : w.heap.size ≤ gb463)); have n3_ := Aside0.mk ((by rw [hg]; exact (below_size (hU HB.out)) : w.heap.size ≤ gb463)); clear HB; have HB := n0_; have BK463 := n1_; have GW463 := n2_; have GE463 := n3_; clear n0_ n1_ n2_ n3_; clear hb hbox hg) | (go_at_call 20; (with_reducible refine (staff_Check.calls _ _ l0 a1 t465 _ ?side1 ?side2 A8.out).mono ?_); (case side1 => repeat (first | exact (Kd.C_below HR0.out HB.out) | (with_reducible refine Kd.C_alloc ?_ _) | (with_reducible refine Kd.C_drewN ?_ _) | (with_reducible refine Kd.C_drew ?_))); (case side2 => exact HC0.out); rintro e w20 ⟨rfl, hb⟩; have n0_ := Aside0.mk (blk_below (bU BK463.out) hb); have n1_ := Aside0.mk (below_step (hU HB.out) hb); clear BK463; clear HB; have BK463 := n0_; have HB := n1_; clear n0_ n1_; (try clear hb); (try clear hb2); (try clear hk); (try clear hi); have hcz21_0 := blk_cell BK463.out; have hfz21_0 := blk_frozen BK463.out) | ((with_reducible refine gate_callee (f := 23) rfl ?_); refine goesL_ (some 30) rfl rfl Try.func23 (by kernel_rfl) rfl #[.slice A0 l0.length c0, .int .i64 a1, .agg #[.int .i64 a2_0, .int .i64 a2_1, .int .i64 a2_2, .int .i64 a2_3, .int .i64 a2_4, .int .i64 a2_5, .int .i64 a2_6]] rfl (by (try simp only [List.map_toArray, List.map_cons, List.map_nil]); first | done | rfl | (simp only [List.length_drop, List.length_take]; rfl)) ?_; (with_reducible refine (staff_Put.calls _ _ l0 a1 a2_0 a2_1 a2_2 a2_3 a2_4 a2_5 a2_6 t466 t469 _ ?side1 ?side2 A10.out).mono ?_); (case side1 => repeat (first | exact (Kd.C_below HR0.out HB.out) | (with_reducible refine Kd.C_alloc ?_ _) | (with_reducible refine Kd.C_drewN ?_ _) | (with_reducible refine Kd.C_drew ?_))); (case side2 => exact HC0.out); rintro e w22 ⟨v467, rfl, ho0, hb⟩; refine ⟨_, rfl, ?_⟩; have n0_ := Aside0.mk (Kd.R_lower (Kd.R_newB ho0 (bU BK463.out)) (below_size (hU HB.out))); have n1_ := Aside0.mk (blk_below (bU BK463.out) hb); have n2_ := Aside0.mk (below_step (hU HB.out) hb); clear BK463; clear HB; have HO468 := n0_; have BK463 := n1_; have HB := n2_; clear n0_ n1_ n2_; (try clear hb); (try clear hb2); (try clear hk); (try clear hi); (try clear ho0); have hcz23_0 := blk_cell BK463.out; have hfz23_0 := blk_frozen BK463.out; obtain ⟨Ao24, co24, eo24⟩ := Kd.R_slice HO468.out; subst eo24) | ((with_reducible refine gate_callee (f := 25) rfl ?_); refine goesL_ (some 45) rfl rfl Try.func25 (by kernel_rfl) rfl #[.slice Ao24 t466.length co24, .int .i64 a1, .int .i64 a2_1, .int .i64 a2_2] rfl (by (try simp only [List.map_toArray, List.map_cons, List.map_nil]); first | done | rfl | (simp only [List.length_drop, List.length_take]; rfl)) ?_; (with_reducible refine (staff_Take.calls _ _ t466 a1 a2_1 a2_2 t470 t471 _ ?side1 ?side2 A12.out).mono ?_); (case side1 => repeat (first | exact (Kd.R_reads' HO468.out).2.2 | (with_reducible refine Kd.C_alloc ?_ _) | (with_reducible refine Kd.C_drewN ?_ _) | (with_reducible refine Kd.C_drew ?_))); (case side2 => exact (Kd.R_reads' HO468.out).2.1); rintro e w25 ⟨v472, rfl, ho0, hb⟩; refine ⟨_, rfl, ?_⟩; have n0_ := Aside0.mk (Kd.R_elder' (Kd.rU HO468.out) (Kd.R_base ho0) hb); have n1_ := Aside0.mk (Kd.R_lower (Kd.R_newB (Kd.R_new' ho0 (Kd.R_lt (Kd.rU HO468.out))) (bU BK463.out)) (below_size (hU HB.out))); have n2_ := Aside0.mk (blk_below (bU BK463.out) hb); have n3_ := Aside0.mk (below_step (hU HB.out) hb); clear HO468; clear BK463; clear HB; have HO468 := n0_; have HO473 := n1_; have BK463 := n2_; have HB := n3_; clear n0_ n1_ n2_ n3_; (try clear hb); (try clear hb2); (try clear hk); (try clear hi); (try clear ho0); obtain ⟨Ao26, co26, eo26⟩ := Kd.R_slice HO473.out; subst eo26) | (go_at_call 27; (with_reducible refine (dancestudioref24_Same.calls k _ _ t470 _ _ l0 true _ ?side1 ?side2 ?side3 ?side4 A14.out).mono ?_); (case side1 => repeat (first | exact (Kd.R_reads' HO473.out).2.2 | (with_reducible refine Kd.C_alloc ?_ _) | (with_reducible refine Kd.C_drewN ?_ _) | (with_reducible refine Kd.C_drew ?_))); (case side2 => exact (Kd.R_reads' HO473.out).2.1); (case side3 => repeat (first | exact (Kd.C_below HR0.out HB.out) | (with_reducible refine Kd.C_alloc ?_ _) | (with_reducible refine Kd.C_drewN ?_ _) | (with_reducible refine Kd.C_drew ?_))); (case side4 => exact HC0.out); rintro e w' ⟨rfl, ⟨nd, rfl⟩⟩) | (go_at_call 20; (with_reducible refine (staff_Check.calls _ _ t466 a1 t475 _ ?side1 ?side2 A17.out).mono ?_); (case side1 => repeat (first | exact (Kd.R_reads' HO468.out).2.2 | (with_reducible refine Kd.C_alloc ?_ _) | (with_reducible refine Kd.C_drewN ?_ _) | (with_reducible refine Kd.C_drew ?_))); (case side2 => exact (Kd.R_reads' HO468.out).2.1); rintro e w27 ⟨rfl, hb⟩; have n0_ := Aside0.mk (Kd.R_below (Kd.rU HO468.out) hb); have n1_ := Aside0.mk (Kd.R_below (Kd.rU HO473.out) hb); have n2_ := Aside0.mk (blk_below (bU BK463.out) hb); have n3_ := Aside0.mk (below_step (hU HB.out) hb); clear HO468; clear HO473; clear BK463; clear HB; have HO468 := n0_; have HO473 := n1_; have BK463 := n2_; have HB := n3_; clear n0_ n1_ n2_ n3_; (try clear hb); (try clear hb2); (try clear hk); (try clear hi)))
        go_loopg [11] k (fun kq v11 w' => ∃ (x11_1 : Int), v11 = .int .i64 x11_1 ∧ Aside0 (dancestudiolaw24_StaffTakes.l0 kq l0 a1 x11_1 = some r) ∧ Aside0 (kq ≤ k) ∧ Aside0 (w'.heap[gb463]? = some (.cells #[.int .i64 a2_0, .int .i64 a2_1, .int .i64 a2_2, .int .i64 a2_3, .int .i64 a2_4, .int .i64 a2_5, .int .i64 a2_6] 29 (0, 0))) ∧ Aside0 (Below w.heap.size w w'))
        case atStart => exact ⟨(0), (by first | rfl | (simp; done) | (simp [*]; done)), H', ⟨Nat.le_refl _⟩, ⟨by (with_reducible repeat (first | refine blk_drewN ?_ _ | refine blk_drew ?_ | refine blk_alloc ?_ _)); exact BK463.out⟩, ⟨hU HB.out⟩⟩
        case round =>
         clear H'
         try clear c1
         try clear c2
         try clear p2
         try clear c4
         try clear c4b0
         try clear c4b1
         try clear p6
         try clear c9
         try clear c9b0
         try clear c9b1
         try clear c10
         try clear c11
         try clear c11b0
         try clear c11b1
         try clear c13
         try clear c13b0
         try clear c13b1
         try clear c15
         try clear c16
         try clear c16b0
         try clear c16b1
         try clear c18
         try clear c18b0
         try clear c18b1
         try clear c22
         try clear c23
         try clear c25
         try clear hcz21_0
         try clear hcz21_1
         try clear hcz21_2
         try clear hcz21_3
         try clear hcz21_4
         try clear hcz21_5
         try clear hcz21_6
         try clear hcz23_0
         try clear hcz23_1
         try clear hcz23_2
         try clear hcz23_3
         try clear hcz23_4
         try clear hcz23_5
         try clear hcz23_6
         try clear hfz21_0
         try clear hfz21_1
         try clear hfz21_2
         try clear hfz21_3
         try clear hfz21_4
         try clear hfz21_5
         try clear hfz21_6
         try clear hfz23_0
         try clear hfz23_1
         try clear hfz23_2
         try clear hfz23_3
         try clear hfz23_4
         try clear hfz23_5
         try clear hfz23_6
         obtain ⟨x11_1, rfl, HA, HK1, BK463, HB⟩ := hrel
         cases gk with
         | zero => exact absurd HA.out (by simp [dancestudiolaw24_StaffTakes.l0])
         | succ k1 =>
          have H := HA.out
          clear HA
          simp only [dancestudiolaw24_StaffTakes.l0] at H
          by_cases c28 : x11_1 < (l0.length : Int)
          ·rw [if_pos c28] at H
           have c28b0 : decide (x11_1 < (l0.length : Int)) = true := decide_eq_true c28
           clear c28
           by_cases c29 : 0 ≤ x11_1
           ·rw [if_pos c29] at H
            have c29b0 : decide (0 ≤ x11_1) = true := decide_eq_true c29
            clear c29
            replace H := Option.bind_eq_some_iff.mp H
            obtain ⟨⟨t478, t479⟩, A300, H⟩ := H
            try dsimp only at H
            have A30 := Aside0.mk A300
            clear A300
            replace H := Option.bind_eq_some_iff.mp H
            obtain ⟨⟨t483, t486⟩, A310, H⟩ := H
            try dsimp only at H
            have A31 := Aside0.mk A310
            clear A310
            by_cases c32 : t479 = 0
            ·rw [if_pos c32] at H
             have c32b0 : (t479 == 0) = true := beq_iff_eq.mpr c32
             have c32b1 : (t479 != 0) = false := bne_eq_false_iff_eq.mpr c32
             clear c32
             by_cases c33 : t486 = 0
             ·rw [if_pos c33] at H
              have c33b0 : (t486 == 0) = true := beq_iff_eq.mpr c33
              have c33b1 : (t486 != 0) = false := bne_eq_false_iff_eq.mpr c33
              clear c33
              by_cases c34 : (t478.length : Int) = (wrap64 ((l0.length : Int) - 1))
              ·rw [if_pos c34] at H
               have c34b0 : ((t478.length : Int) == (wrap64 ((l0.length : Int) - 1))) = true := beq_iff_eq.mpr c34
               have c34b1 : ((t478.length : Int) != (wrap64 ((l0.length : Int) - 1))) = false := bne_eq_false_iff_eq.mpr c34
               clear c34
               replace H := Option.bind_eq_some_iff.mp H
               obtain ⟨t487, A350, H⟩ := H
               replace H : (if t487 = true then (dancestudiolaw24_StaffTakes.l0 k1 l0 a1 (wrap64 (x11_1 + 1))) else (none)) = some r := H
               have A35 := Aside0.mk A350
               clear A350
               by_cases c36 : t487 = true
               ·subst c36
                have H1 : (dancestudiolaw24_StaffTakes.l0 k1 l0 a1 (wrap64 (x11_1 + 1))) = some r := by rw [if_pos rfl] at H; exact H
                clear H
                have H := H1
                clear H1
                have H' := Aside0.mk H
                clear H
                try go_wp2
                have n0_ := Aside0.mk (blk_drew BK463.out)
                have n1_ := Aside0.mk (below_drew1 HB.out)
                clear BK463
                clear HB
                have BK463 := n0_
                have HB := n1_
                clear n0_ n1_
                have p476 : 0 ≤ (x11_1 : Int) := of_decide_eq_true (by first | (with_reducible assumption) | assumption)
                have q476 : x11_1 < (l0.length : Int) := of_decide_eq_true (by first | (with_reducible assumption) | assumption)
                obtain ⟨ad476, e476, hx476_0, hx476_1, hx476_2, hx476_3, hx476_4, hx476_5, hx476_6⟩ := at_T29 HR0.out x11_1 p476 q476
                have hw476_6 := hx476_6
                have hw476_5 := hx476_5
                have hw476_4 := hx476_4
                have hw476_3 := hx476_3
                have hw476_2 := hx476_2
                have hw476_1 := hx476_1
                have hw476_0 := hx476_0
                cases e476
                replace hx476_0 := hbC HB hx476_0
                replace hx476_1 := hbC HB hx476_1
                replace hx476_2 := hbC HB hx476_2
                replace hx476_3 := hbC HB hx476_3
                replace hx476_4 := hbC HB hx476_4
                replace hx476_5 := hbC HB hx476_5
                replace hx476_6 := hbC HB hx476_6
                replace p476 := eq_true p476
                replace q476 := eq_true q476
                have p477 : 0 ≤ (x11_1 : Int) := of_decide_eq_true (by first | (with_reducible assumption) | assumption)
                have q477 : x11_1 < (l0.length : Int) := of_decide_eq_true (by first | (with_reducible assumption) | assumption)
                obtain ⟨ad477, e477, hx477_0, hx477_1, hx477_2, hx477_3, hx477_4, hx477_5, hx477_6⟩ := at_T29 HR0.out x11_1 p477 q477
                have hw477_6 := hx477_6
                have hw477_5 := hx477_5
                have hw477_4 := hx477_4
                have hw477_3 := hx477_3
                have hw477_2 := hx477_2
                have hw477_1 := hx477_1
                have hw477_0 := hx477_0
                obtain rfl : ad476 = ad477 := (by injection e477)
                replace hx477_0 := hbC HB hx477_0
                replace hx477_1 := hbC HB hx477_1
                replace hx477_2 := hbC HB hx477_2
                replace hx477_3 := hbC HB hx477_3
                replace hx477_4 := hbC HB hx477_4
                replace hx477_5 := hbC HB hx477_5
                replace hx477_6 := hbC HB hx477_6
                replace p477 := eq_true p477
                replace q477 := eq_true q477
                refine start_ (n := 18) (S := fun w' => w'.cell? (ad476.add ((x11_1).toNat * 7)) = some (.int .i64 ((rd_T29 l0 x11_1).f0)) ∧ w'.cell? ⟨(ad476.add ((x11_1).toNat * 7)).block, (ad476.add ((x11_1).toNat * 7)).off + 1, none⟩ = some (.int .i64 ((rd_T29 l0 x11_1).f1)) ∧ w'.cell? ⟨(ad476.add ((x11_1).toNat * 7)).block, (ad476.add ((x11_1).toNat * 7)).off + 2, none⟩ = some (.int .i64 ((rd_T29 l0 x11_1).f2)) ∧ w'.cell? ⟨(ad476.add ((x11_1).toNat * 7)).block, (ad476.add ((x11_1).toNat * 7)).off + 3, none⟩ = some (.int .i64 ((rd_T29 l0 x11_1).f3)) ∧ w'.cell? ⟨(ad476.add ((x11_1).toNat * 7)).block, (ad476.add ((x11_1).toNat * 7)).off + 4, none⟩ = some (.int .i64 ((rd_T29 l0 x11_1).f4)) ∧ w'.cell? ⟨(ad476.add ((x11_1).toNat * 7)).block, (ad476.add ((x11_1).toNat * 7)).off + 5, none⟩ = some (.int .i64 ((rd_T29 l0 x11_1).f5)) ∧ w'.cell? ⟨(ad476.add ((x11_1).toNat * 7)).block, (ad476.add ((x11_1).toNat * 7)).off + 6, none⟩ = some (.int .i64 ((rd_T29 l0 x11_1).f6)) ∧ w'.cell? (ad476.add ((x11_1).toNat * 7)) = some (.int .i64 ((rd_T29 l0 x11_1).f0)) ∧ w'.cell? ⟨(ad476.add ((x11_1).toNat * 7)).block, (ad476.add ((x11_1).toNat * 7)).off + 1, none⟩ = some (.int .i64 ((rd_T29 l0 x11_1).f1)) ∧ w'.cell? ⟨(ad476.add ((x11_1).toNat * 7)).block, (ad476.add ((x11_1).toNat * 7)).off + 2, none⟩ = some (.int .i64 ((rd_T29 l0 x11_1).f2)) ∧ w'.cell? ⟨(ad476.add ((x11_1).toNat * 7)).block, (ad476.add ((x11_1).toNat * 7)).off + 3, none⟩ = some (.int .i64 ((rd_T29 l0 x11_1).f3)) ∧ w'.cell? ⟨(ad476.add ((x11_1).toNat * 7)).block, (ad476.add ((x11_1).toNat * 7)).off + 4, none⟩ = some (.int .i64 ((rd_T29 l0 x11_1).f4)) ∧ w'.cell? ⟨(ad476.add ((x11_1).toNat * 7)).block, (ad476.add ((x11_1).toNat * 7)).off + 5, none⟩ = some (.int .i64 ((rd_T29 l0 x11_1).f5)) ∧ w'.cell? ⟨(ad476.add ((x11_1).toNat * 7)).block, (ad476.add ((x11_1).toNat * 7)).off + 6, none⟩ = some (.int .i64 ((rd_T29 l0 x11_1).f6))) (ds := []) #[false, false, false, false, false, false, false, false, false, false, false, false, false, false, false, false, false, false] (by kernel_rfl) rfl rfl ⟨(hbC HB hw476_0), (hbC HB hw476_1), (hbC HB hw476_2), (hbC HB hw476_3), (hbC HB hw476_4), (hbC HB hw476_5), (hbC HB hw476_6), (hbC HB hw477_0), (hbC HB hw477_1), (hbC HB hw477_2), (hbC HB hw477_3), (hbC HB hw477_4), (hbC HB hw477_5), (hbC HB hw477_6)⟩ (fun hHeld => ?_); refine with_tabW dancestudiolaw24_StaffTakes.tab13 dancestudiolaw24_StaffTakes.bits13 (fun HT_ HW_ => ?_)
                generalize wr.drew = w37 at BK463 HB hx476_0 hx476_1 hx476_2 hx476_3 hx476_4 hx476_5 hx476_6 hx477_0 hx477_1 hx477_2 hx477_3 hx477_4 hx477_5 hx477_6 hHeld ⊢
                refine puA 0 77 (bs 18 1) ?_
                refine puA 1 78 (bs 18 3) ?_
                refine puA 2 79 (bs 18 7) ?_
                refine puA 3 80 (bs 18 15) ?_
                refine puA 4 81 (bs 18 31) ?_
                refine puA 5 82 (bs 18 63) ?_
                refine puA 7 84 (bs 18 191) ?_
                refine puA 8 85 (bs 18 447) ?_
                refine puA 9 86 (bs 18 959) ?_
                refine puA 10 87 (bs 18 1983) ?_
                refine tkA 6 83 (bs 18 2047) hHeld ?_
                refine tkA 11 88 (bs 18 4095) hHeld ?_
                refine one_ (i := 12) (N := some 89) (bs 18 8191) rfl rfl (one_of HT_.out (by kernel_rfl)) (by decide) (fun K hK => ?_)
                refine goes_ Try.func25 (by kernel_rfl) rfl #[.slice (some ad476) l0.length c0, .int .i64 a1, .int .i64 ((rd_T29 l0 x11_1).f1), .int .i64 ((rd_T29 l0 x11_1).f2)] (by rfl) rfl rfl (by (try simp only [List.map_toArray, List.map_cons, List.map_nil]); first | done | rfl | (simp only [List.length_drop, List.length_take]; rfl)) ?_
                with_reducible refine (staff_Take.calls _ _ l0 a1 ((rd_T29 l0 x11_1).f1) ((rd_T29 l0 x11_1).f2) t478 t479 _ ?side1 ?side2 A30.out).mono ?_
                (case side1 => repeat (first | exact (Kd.C_below HR0.out HB.out) | (with_reducible refine Kd.C_alloc ?_ _) | (with_reducible refine Kd.C_drewN ?_ _) | (with_reducible refine Kd.C_drew ?_)))
                (case side2 => exact HC0.out)
                rintro e w38 ⟨v480, rfl, ho0, hb⟩
                refine ⟨_, rfl, ?_⟩
                have n0_ := Aside0.mk (Kd.R_lower (Kd.R_newB ho0 (bU BK463.out)) (below_size (hU HB.out)))
                have n1_ := Aside0.mk (blk_below (bU BK463.out) hb)
                have n2_ := Aside0.mk (below_step (hU HB.out) hb)
                clear BK463
                clear HB
                have HO481 := n0_
                have BK463 := n1_
                have HB := n2_
                clear n0_ n1_ n2_
                (try clear hb)
                (try clear hb2)
                (try clear hk)
                (try clear hi)
                (try clear ho0)
                refine hK.out _ _ ⟨(hbC HB hw476_0), (hbC HB hw476_1), (hbC HB hw476_2), (hbC HB hw476_3), (hbC HB hw476_4), (hbC HB hw476_5), (hbC HB hw476_6), (hbC HB hw477_0), (hbC HB hw477_1), (hbC HB hw477_2), (hbC HB hw477_3), (hbC HB hw477_4), (hbC HB hw477_5), (hbC HB hw477_6)⟩ (fun hHeld => ?_)
                clear hK K
                refine nmA 89 ?_
                refine puA 13 76 (bs 18 16383) ?_
                refine puA 14 90 (bs 18 32767) ?_
                refine puA 15 91 (bs 18 65535) ?_
                refine puA 16 12 (bs 18 131071) ?_
                refine puA 17 13 (bs 18 262143) ?_
                refine done_ (done_of HT_.out (by kernel_rfl)) ?_
                have p482 : 0 ≤ (x11_1 : Int) := of_decide_eq_true (by first | (with_reducible assumption) | assumption)
                have q482 : x11_1 < (l0.length : Int) := of_decide_eq_true (by first | (with_reducible assumption) | assumption)
                obtain ⟨ad482, e482, hx482_0, hx482_1, hx482_2, hx482_3, hx482_4, hx482_5, hx482_6⟩ := at_T29 HR0.out x11_1 p482 q482
                obtain rfl : ad476 = ad482 := (by injection e482)
                replace hx482_0 := hbC HB hx482_0
                replace hx482_1 := hbC HB hx482_1
                replace hx482_2 := hbC HB hx482_2
                replace hx482_3 := hbC HB hx482_3
                replace hx482_4 := hbC HB hx482_4
                replace hx482_5 := hbC HB hx482_5
                replace hx482_6 := hbC HB hx482_6
                replace p482 := eq_true p482
                replace q482 := eq_true q482
                obtain ⟨Ao39, co39, eo39⟩ := Kd.R_slice HO481.out
                subst eo39
                try go_wp2_with (first | ((with_reducible refine gate_callee (f := 23) rfl ?_); refine goesL_ (some 99) rfl rfl Try.func23 (by kernel_rfl) rfl #[.slice Ao39 t478.length co39, .int .i64 a1, .agg #[.int .i64 ((rd_T29 l0 x11_1).f0), .int .i64 ((rd_T29 l0 x11_1).f1), .int .i64 ((rd_T29 l0 x11_1).f2), .int .i64 ((rd_T29 l0 x11_1).f3), .int .i64 ((rd_T29 l0 x11_1).f4), .int .i64 ((rd_T29 l0 x11_1).f5), .int .i64 ((rd_T29 l0 x11_1).f6)]] rfl (by (try simp only [List.map_toArray, List.map_cons, List.map_nil]); first | done | rfl | (simp only [List.length_drop, List.length_take]; rfl)) ?_; (with_reducible refine (staff_Put.calls _ _ t478 a1 ((rd_T29 l0 x11_1).f0) ((rd_T29 l0 x11_1).f1) ((rd_T29 l0 x11_1).f2) ((rd_T29 l0 x11_1).f3) ((rd_T29 l0 x11_1).f4) ((rd_T29 l0 x11_1).f5) ((rd_T29 l0 x11_1).f6) t483 t486 _ ?side1 ?side2 A31.out).mono ?_); (case side1 => repeat (first | exact (Kd.R_reads' HO481.out).2.2 | (with_reducible refine Kd.C_alloc ?_ _) | (with_reducible refine Kd.C_drewN ?_ _) | (with_reducible refine Kd.C_drew ?_))); (case side2 => exact (Kd.R_reads' HO481.out).2.1); rintro e w40 ⟨v484, rfl, ho0, hb⟩; refine ⟨_, rfl, ?_⟩; have n0_ := Aside0.mk (Kd.R_elder' (Kd.rU HO481.out) (Kd.R_base ho0) hb); have n1_ := Aside0.mk (Kd.R_lower (Kd.R_newB (Kd.R_new' ho0 (Kd.R_lt (Kd.rU HO481.out))) (bU BK463.out)) (below_size (hU HB.out))); have n2_ := Aside0.mk (blk_below (bU BK463.out) hb); have n3_ := Aside0.mk (below_step (hU HB.out) hb); clear HO481; clear BK463; clear HB; have HO481 := n0_; have HO485 := n1_; have BK463 := n2_; have HB := n3_; clear n0_ n1_ n2_ n3_; (try clear hb); (try clear hb2); (try clear hk); (try clear hi); (try clear ho0); obtain ⟨Ao41, co41, eo41⟩ := Kd.R_slice HO485.out; subst eo41) | (go_at_call 27; (with_reducible refine (dancestudioref24_Same.calls k1 _ _ t483 _ _ l0 true _ ?side1 ?side2 ?side3 ?side4 A35.out).mono ?_); (case side1 => repeat (first | exact (Kd.R_reads' HO485.out).2.2 | (with_reducible refine Kd.C_alloc ?_ _) | (with_reducible refine Kd.C_drewN ?_ _) | (with_reducible refine Kd.C_drew ?_))); (case side2 => exact (Kd.R_reads' HO485.out).2.1); (case side3 => repeat (first | exact (Kd.C_below HR0.out HB.out) | (with_reducible refine Kd.C_alloc ?_ _) | (with_reducible refine Kd.C_drewN ?_ _) | (with_reducible refine Kd.C_drew ?_))); (case side4 => exact HC0.out); rintro e w' ⟨rfl, ⟨nd, rfl⟩⟩))
                go_roundg k1
                case measure => have := HK1.out; omega
                case rel => exact ⟨(wrap64 (x11_1 + 1)), (by first | rfl | (simp; done) | (simp [*]; done)), H', ⟨by have := HK1.out; omega⟩, ⟨by (with_reducible repeat (first | refine blk_drewN ?_ _ | refine blk_drew ?_ | refine blk_alloc ?_ _)); exact BK463.out⟩, ⟨hU HB.out⟩⟩
               ·replace c36 := Bool.eq_false_iff.mpr c36
                subst c36
                have H1 : (none) = some r := by rw [if_neg (show ¬ (false = true) by decide)] at H; exact H
                clear H
                have H := H1
                clear H1
                exact absurd H (by simp)
              ·rw [if_neg c34] at H
               exact absurd H (by simp)
             ·rw [if_neg c33] at H
              exact absurd H (by simp)
            ·rw [if_neg c32] at H
             exact absurd H (by simp)
           ·rw [if_neg c29] at H
            exact absurd H (by simp)
          ·rw [if_neg c28] at H
           have c28b0 : decide (x11_1 < (l0.length : Int)) = false := decide_eq_false c28
           clear c28
           replace H := Option.bind_eq_some_iff.mp H
           obtain ⟨t488, A420, H⟩ := H
           replace H : (some t488) = some r := H
           have A42 := Aside0.mk A420
           clear A420
           obtain rfl := Option.some.inj H
           go_wp2_with (first | ((with_reducible refine gate_callee (f := 22) rfl ?_); refine goesL_ (some 122) rfl rfl Try.func22 (by kernel_rfl) rfl #[] rfl (by (try simp only [List.map_toArray, List.map_cons, List.map_nil]); first | done | rfl | (simp only [List.length_drop, List.length_take]; rfl)) ?_; (with_reducible refine (dancestudiolaw24_awake.calls k1  t488 _ A42.out).mono ?_); rintro e w43 ⟨rfl, hb⟩; refine ⟨_, rfl, ?_⟩; have n0_ := Aside0.mk (blk_below (bU BK463.out) hb); have n1_ := Aside0.mk (below_step (hU HB.out) hb); clear BK463; clear HB; have BK463 := n0_; have HB := n1_; clear n0_ n1_; (try clear hb); (try clear hb2); (try clear hk); (try clear hi)))
           go_ret
           exact ⟨by first | rfl | (simp [errW_none, errW_some] <;> rfl) | (simp [*, errW_none, errW_some] <;> rfl), hU HB.out⟩
       ·rw [if_neg c18] at H
        exact absurd H (by simp)
      ·rw [if_neg c16] at H
       exact absurd H (by simp)
     ·replace c15 := Bool.eq_false_iff.mpr c15
      subst c15
      have H1 : (none) = some r := by rw [if_neg (show ¬ (false = true) by decide)] at H; exact H
      clear H
      have H := H1
      clear H1
      exact absurd H (by simp)
    ·rw [if_neg c13] at H
     exact absurd H (by simp)
   ·rw [if_neg c11] at H
    have c11b0 : (t469 == 0) = false := beq_eq_false_iff_ne.mpr c11
    have c11b1 : (t469 != 0) = true := bne_iff_ne.mpr c11
    by_cases c44 : (t466.length : Int) = 0
    ·rw [if_pos c44] at H
     have c44b0 : ((t466.length : Int) == 0) = true := beq_iff_eq.mpr c44
     have c44b1 : ((t466.length : Int) != 0) = false := bne_eq_false_iff_eq.mpr c44
     clear c44
     have H' := Aside0.mk H
     clear H
     go_enter Try.func10, Try.ntmps10
     go_wp2_with (first | ((with_reducible refine gate_dst (N := 5) rfl ?_); (try (refine gate_guard (by rfl) ?_; dsimp only)); refine box_event ?hg (N := 5) ?hd (cs := #[.int .i64 a2_0, .int .i64 a2_1, .int .i64 a2_2, .int .i64 a2_3, .int .i64 a2_4, .int .i64 a2_5, .int .i64 a2_6]) (t := 29) ?hr ?_; (case hd => rfl); (case hg => rfl); (case hr => first | (go_simp; done) | (go_simp; rfl)); intro gb463 hg w45 hbox hb; have n0_ := Aside0.mk (below_step (hU HB.out) hb); have n1_ := Aside0.mk (hbox); have n2_ := Aside0.mk ((by rw [hg]; exact (below_size (hU HB.out)) : w.heap.size ≤ gb463)); have n3_ := Aside0.mk ((by rw [hg]; exact (below_size (hU HB.out)) : w.heap.size ≤ gb463)); clear HB; have HB := n0_; have BK463 := n1_; have GW463 := n2_; have GE463 := n3_; clear n0_ n1_ n2_ n3_; clear hb hbox hg) | (go_at_call 20; (with_reducible refine (staff_Check.calls _ _ l0 a1 t465 _ ?side1 ?side2 A8.out).mono ?_); (case side1 => repeat (first | exact (Kd.C_below HR0.out HB.out) | (with_reducible refine Kd.C_alloc ?_ _) | (with_reducible refine Kd.C_drewN ?_ _) | (with_reducible refine Kd.C_drew ?_))); (case side2 => exact HC0.out); rintro e w46 ⟨rfl, hb⟩; have n0_ := Aside0.mk (blk_below (bU BK463.out) hb); have n1_ := Aside0.mk (below_step (hU HB.out) hb); clear BK463; clear HB; have BK463 := n0_; have HB := n1_; clear n0_ n1_; (try clear hb); (try clear hb2); (try clear hk); (try clear hi); have hcz47_0 := blk_cell BK463.out; have hfz47_0 := blk_frozen BK463.out) | ((with_reducible refine gate_callee (f := 23) rfl ?_); refine goesL_ (some 30) rfl rfl Try.func23 (by kernel_rfl) rfl #[.slice A0 l0.length c0, .int .i64 a1, .agg #[.int .i64 a2_0, .int .i64 a2_1, .int .i64 a2_2, .int .i64 a2_3, .int .i64 a2_4, .int .i64 a2_5, .int .i64 a2_6]] rfl (by (try simp only [List.map_toArray, List.map_cons, List.map_nil]); first | done | rfl | (simp only [List.length_drop, List.length_take]; rfl)) ?_; (with_reducible refine (staff_Put.calls _ _ l0 a1 a2_0 a2_1 a2_2 a2_3 a2_4 a2_5 a2_6 t466 t469 _ ?side1 ?side2 A10.out).mono ?_); (case side1 => repeat (first | exact (Kd.C_below HR0.out HB.out) | (with_reducible refine Kd.C_alloc ?_ _) | (with_reducible refine Kd.C_drewN ?_ _) | (with_reducible refine Kd.C_drew ?_))); (case side2 => exact HC0.out); rintro e w48 ⟨v467, rfl, ho0, hb⟩; refine ⟨_, rfl, ?_⟩; have n0_ := Aside0.mk (Kd.R_lower (Kd.R_newB ho0 (bU BK463.out)) (below_size (hU HB.out))); have n1_ := Aside0.mk (blk_below (bU BK463.out) hb); have n2_ := Aside0.mk (below_step (hU HB.out) hb); clear BK463; clear HB; have HO468 := n0_; have BK463 := n1_; have HB := n2_; clear n0_ n1_ n2_; (try clear hb); (try clear hb2); (try clear hk); (try clear hi); (try clear ho0); obtain ⟨Ao49, co49, eo49⟩ := Kd.R_slice HO468.out; subst eo49))
     go_loopg [11] k (fun kq v11 w' => ∃ (x11_1 : Int), v11 = .int .i64 x11_1 ∧ Aside0 (dancestudiolaw24_StaffTakes.l0 kq l0 a1 x11_1 = some r) ∧ Aside0 (kq ≤ k) ∧ Aside0 (w'.heap[gb463]? = some (.cells #[.int .i64 a2_0, .int .i64 a2_1, .int .i64 a2_2, .int .i64 a2_3, .int .i64 a2_4, .int .i64 a2_5, .int .i64 a2_6] 29 (0, 0))) ∧ Aside0 (Below w.heap.size w w'))
     case atStart => exact ⟨(0), (by first | rfl | (simp; done) | (simp [*]; done)), H', ⟨Nat.le_refl _⟩, ⟨by (with_reducible repeat (first | refine blk_drewN ?_ _ | refine blk_drew ?_ | refine blk_alloc ?_ _)); exact BK463.out⟩, ⟨hU HB.out⟩⟩
     case round =>
      clear H'
      try clear c1
      try clear c2
      try clear p2
      try clear c3
      try clear c4
      try clear c4b0
      try clear c4b1
      try clear p4
      try clear q4
      try clear hx4
      try clear p6
      try clear c9
      try clear c9b0
      try clear c9b1
      try clear c10
      try clear c11
      try clear c11b0
      try clear c11b1
      try clear c13
      try clear c13b0
      try clear c13b1
      try clear c15
      try clear c16
      try clear c16b0
      try clear c16b1
      try clear c18
      try clear c18b0
      try clear c18b1
      try clear c22
      try clear c23
      try clear c25
      try clear c28
      try clear c28b0
      try clear c29
      try clear c29b0
      try clear c32
      try clear c32b0
      try clear c32b1
      try clear c33
      try clear c33b0
      try clear c33b1
      try clear c34
      try clear c34b0
      try clear c34b1
      try clear c36
      try clear c44
      try clear c44b0
      try clear c44b1
      try clear p47
      try clear q47
      try clear hx47
      try clear p48
      try clear q48
      try clear hx48
      try clear hcz21_0
      try clear hcz21_1
      try clear hcz21_2
      try clear hcz21_3
      try clear hcz21_4
      try clear hcz21_5
      try clear hcz21_6
      try clear hcz23_0
      try clear hcz23_1
      try clear hcz23_2
      try clear hcz23_3
      try clear hcz23_4
      try clear hcz23_5
      try clear hcz23_6
      try clear hcz47_0
      try clear hcz47_1
      try clear hcz47_2
      try clear hcz47_3
      try clear hcz47_4
      try clear hcz47_5
      try clear hcz47_6
      try clear hfz21_0
      try clear hfz21_1
      try clear hfz21_2
      try clear hfz21_3
      try clear hfz21_4
      try clear hfz21_5
      try clear hfz21_6
      try clear hfz23_0
      try clear hfz23_1
      try clear hfz23_2
      try clear hfz23_3
      try clear hfz23_4
      try clear hfz23_5
      try clear hfz23_6
      try clear hfz47_0
      try clear hfz47_1
      try clear hfz47_2
      try clear hfz47_3
      try clear hfz47_4
      try clear hfz47_5
      try clear hfz47_6
      try clear hx476_0
      try clear hx476_1
      try clear hx476_2
      try clear hx476_3
      try clear hx476_4
      try clear hx476_5
      try clear hx476_6
      try clear hx477_0
      try clear hx477_1
      try clear hx477_2
      try clear hx477_3
      try clear hx477_4
      try clear hx477_5
      try clear hx477_6
      try clear hx482_0
      try clear hx482_1
      try clear hx482_2
      try clear hx482_3
      try clear hx482_4
      try clear hx482_5
      try clear hx482_6
      try clear p2
      try clear p476
      try clear p477
      try clear p482
      try clear p6
      try clear q476
      try clear q477
      try clear q482
      obtain ⟨x11_1, rfl, HA, HK1, BK463, HB⟩ := hrel
      cases gk with
      | zero => exact absurd HA.out (by simp [dancestudiolaw24_StaffTakes.l0])
      | succ k1 =>
       have H := HA.out
       clear HA
       simp only [dancestudiolaw24_StaffTakes.l0] at H
       by_cases c50 : x11_1 < (l0.length : Int)
       ·rw [if_pos c50] at H
        have c50b0 : decide (x11_1 < (l0.length : Int)) = true := decide_eq_true c50
        clear c50
        by_cases c51 : 0 ≤ x11_1
        ·rw [if_pos c51] at H
         have c51b0 : decide (0 ≤ x11_1) = true := decide_eq_true c51
         clear c51
         replace H := Option.bind_eq_some_iff.mp H
         obtain ⟨⟨t478, t479⟩, A520, H⟩ := H
         try dsimp only at H
         have A52 := Aside0.mk A520
         clear A520
         replace H := Option.bind_eq_some_iff.mp H
         obtain ⟨⟨t483, t486⟩, A530, H⟩ := H
         try dsimp only at H
         have A53 := Aside0.mk A530
         clear A530
         by_cases c54 : t479 = 0
         ·rw [if_pos c54] at H
          have c54b0 : (t479 == 0) = true := beq_iff_eq.mpr c54
          have c54b1 : (t479 != 0) = false := bne_eq_false_iff_eq.mpr c54
          clear c54
          by_cases c55 : t486 = 0
          ·rw [if_pos c55] at H
           have c55b0 : (t486 == 0) = true := beq_iff_eq.mpr c55
           have c55b1 : (t486 != 0) = false := bne_eq_false_iff_eq.mpr c55
           clear c55
           by_cases c56 : (t478.length : Int) = (wrap64 ((l0.length : Int) - 1))
           ·rw [if_pos c56] at H
            have c56b0 : ((t478.length : Int) == (wrap64 ((l0.length : Int) - 1))) = true := beq_iff_eq.mpr c56
            have c56b1 : ((t478.length : Int) != (wrap64 ((l0.length : Int) - 1))) = false := bne_eq_false_iff_eq.mpr c56
            clear c56
            replace H := Option.bind_eq_some_iff.mp H
            obtain ⟨t487, A570, H⟩ := H
            replace H : (if t487 = true then (dancestudiolaw24_StaffTakes.l0 k1 l0 a1 (wrap64 (x11_1 + 1))) else (none)) = some r := H
            have A57 := Aside0.mk A570
            clear A570
            by_cases c58 : t487 = true
            ·subst c58
             have H1 : (dancestudiolaw24_StaffTakes.l0 k1 l0 a1 (wrap64 (x11_1 + 1))) = some r := by rw [if_pos rfl] at H; exact H
             clear H
             have H := H1
             clear H1
             have H' := Aside0.mk H
             clear H
             try go_wp2
             have n0_ := Aside0.mk (blk_drew BK463.out)
             have n1_ := Aside0.mk (below_drew1 HB.out)
             clear BK463
             clear HB
             have BK463 := n0_
             have HB := n1_
             clear n0_ n1_
             have p476 : 0 ≤ (x11_1 : Int) := of_decide_eq_true (by first | (with_reducible assumption) | assumption)
             have q476 : x11_1 < (l0.length : Int) := of_decide_eq_true (by first | (with_reducible assumption) | assumption)
             obtain ⟨ad476, e476, hx476_0, hx476_1, hx476_2, hx476_3, hx476_4, hx476_5, hx476_6⟩ := at_T29 HR0.out x11_1 p476 q476
             have hw476_6 := hx476_6
             have hw476_5 := hx476_5
             have hw476_4 := hx476_4
             have hw476_3 := hx476_3
             have hw476_2 := hx476_2
             have hw476_1 := hx476_1
             have hw476_0 := hx476_0
             cases e476
             replace hx476_0 := hbC HB hx476_0
             replace hx476_1 := hbC HB hx476_1
             replace hx476_2 := hbC HB hx476_2
             replace hx476_3 := hbC HB hx476_3
             replace hx476_4 := hbC HB hx476_4
             replace hx476_5 := hbC HB hx476_5
             replace hx476_6 := hbC HB hx476_6
             replace p476 := eq_true p476
             replace q476 := eq_true q476
             have p477 : 0 ≤ (x11_1 : Int) := of_decide_eq_true (by first | (with_reducible assumption) | assumption)
             have q477 : x11_1 < (l0.length : Int) := of_decide_eq_true (by first | (with_reducible assumption) | assumption)
             obtain ⟨ad477, e477, hx477_0, hx477_1, hx477_2, hx477_3, hx477_4, hx477_5, hx477_6⟩ := at_T29 HR0.out x11_1 p477 q477
             have hw477_6 := hx477_6
             have hw477_5 := hx477_5
             have hw477_4 := hx477_4
             have hw477_3 := hx477_3
             have hw477_2 := hx477_2
             have hw477_1 := hx477_1
             have hw477_0 := hx477_0
             obtain rfl : ad476 = ad477 := (by injection e477)
             replace hx477_0 := hbC HB hx477_0
             replace hx477_1 := hbC HB hx477_1
             replace hx477_2 := hbC HB hx477_2
             replace hx477_3 := hbC HB hx477_3
             replace hx477_4 := hbC HB hx477_4
             replace hx477_5 := hbC HB hx477_5
             replace hx477_6 := hbC HB hx477_6
             replace p477 := eq_true p477
             replace q477 := eq_true q477
             refine start_ (n := 18) (S := fun w' => w'.cell? (ad476.add ((x11_1).toNat * 7)) = some (.int .i64 ((rd_T29 l0 x11_1).f0)) ∧ w'.cell? ⟨(ad476.add ((x11_1).toNat * 7)).block, (ad476.add ((x11_1).toNat * 7)).off + 1, none⟩ = some (.int .i64 ((rd_T29 l0 x11_1).f1)) ∧ w'.cell? ⟨(ad476.add ((x11_1).toNat * 7)).block, (ad476.add ((x11_1).toNat * 7)).off + 2, none⟩ = some (.int .i64 ((rd_T29 l0 x11_1).f2)) ∧ w'.cell? ⟨(ad476.add ((x11_1).toNat * 7)).block, (ad476.add ((x11_1).toNat * 7)).off + 3, none⟩ = some (.int .i64 ((rd_T29 l0 x11_1).f3)) ∧ w'.cell? ⟨(ad476.add ((x11_1).toNat * 7)).block, (ad476.add ((x11_1).toNat * 7)).off + 4, none⟩ = some (.int .i64 ((rd_T29 l0 x11_1).f4)) ∧ w'.cell? ⟨(ad476.add ((x11_1).toNat * 7)).block, (ad476.add ((x11_1).toNat * 7)).off + 5, none⟩ = some (.int .i64 ((rd_T29 l0 x11_1).f5)) ∧ w'.cell? ⟨(ad476.add ((x11_1).toNat * 7)).block, (ad476.add ((x11_1).toNat * 7)).off + 6, none⟩ = some (.int .i64 ((rd_T29 l0 x11_1).f6)) ∧ w'.cell? (ad476.add ((x11_1).toNat * 7)) = some (.int .i64 ((rd_T29 l0 x11_1).f0)) ∧ w'.cell? ⟨(ad476.add ((x11_1).toNat * 7)).block, (ad476.add ((x11_1).toNat * 7)).off + 1, none⟩ = some (.int .i64 ((rd_T29 l0 x11_1).f1)) ∧ w'.cell? ⟨(ad476.add ((x11_1).toNat * 7)).block, (ad476.add ((x11_1).toNat * 7)).off + 2, none⟩ = some (.int .i64 ((rd_T29 l0 x11_1).f2)) ∧ w'.cell? ⟨(ad476.add ((x11_1).toNat * 7)).block, (ad476.add ((x11_1).toNat * 7)).off + 3, none⟩ = some (.int .i64 ((rd_T29 l0 x11_1).f3)) ∧ w'.cell? ⟨(ad476.add ((x11_1).toNat * 7)).block, (ad476.add ((x11_1).toNat * 7)).off + 4, none⟩ = some (.int .i64 ((rd_T29 l0 x11_1).f4)) ∧ w'.cell? ⟨(ad476.add ((x11_1).toNat * 7)).block, (ad476.add ((x11_1).toNat * 7)).off + 5, none⟩ = some (.int .i64 ((rd_T29 l0 x11_1).f5)) ∧ w'.cell? ⟨(ad476.add ((x11_1).toNat * 7)).block, (ad476.add ((x11_1).toNat * 7)).off + 6, none⟩ = some (.int .i64 ((rd_T29 l0 x11_1).f6))) (ds := []) #[false, false, false, false, false, false, false, false, false, false, false, false, false, false, false, false, false, false] (by kernel_rfl) rfl rfl ⟨(hbC HB hw476_0), (hbC HB hw476_1), (hbC HB hw476_2), (hbC HB hw476_3), (hbC HB hw476_4), (hbC HB hw476_5), (hbC HB hw476_6), (hbC HB hw477_0), (hbC HB hw477_1), (hbC HB hw477_2), (hbC HB hw477_3), (hbC HB hw477_4), (hbC HB hw477_5), (hbC HB hw477_6)⟩ (fun hHeld => ?_); refine with_tabW dancestudiolaw24_StaffTakes.tab13 dancestudiolaw24_StaffTakes.bits13 (fun HT_ HW_ => ?_)
             generalize wr.drew = w59 at BK463 HB hx476_0 hx476_1 hx476_2 hx476_3 hx476_4 hx476_5 hx476_6 hx477_0 hx477_1 hx477_2 hx477_3 hx477_4 hx477_5 hx477_6 hHeld ⊢
             refine puA 0 77 (bs 18 1) ?_
             refine puA 1 78 (bs 18 3) ?_
             refine puA 2 79 (bs 18 7) ?_
             refine puA 3 80 (bs 18 15) ?_
             refine puA 4 81 (bs 18 31) ?_
             refine puA 5 82 (bs 18 63) ?_
             refine puA 7 84 (bs 18 191) ?_
             refine puA 8 85 (bs 18 447) ?_
             refine puA 9 86 (bs 18 959) ?_
             refine puA 10 87 (bs 18 1983) ?_
             refine tkA 6 83 (bs 18 2047) hHeld ?_
             refine tkA 11 88 (bs 18 4095) hHeld ?_
             refine one_ (i := 12) (N := some 89) (bs 18 8191) rfl rfl (one_of HT_.out (by kernel_rfl)) (by decide) (fun K hK => ?_)
             refine goes_ Try.func25 (by kernel_rfl) rfl #[.slice (some ad476) l0.length c0, .int .i64 a1, .int .i64 ((rd_T29 l0 x11_1).f1), .int .i64 ((rd_T29 l0 x11_1).f2)] (by rfl) rfl rfl (by (try simp only [List.map_toArray, List.map_cons, List.map_nil]); first | done | rfl | (simp only [List.length_drop, List.length_take]; rfl)) ?_
             with_reducible refine (staff_Take.calls _ _ l0 a1 ((rd_T29 l0 x11_1).f1) ((rd_T29 l0 x11_1).f2) t478 t479 _ ?side1 ?side2 A52.out).mono ?_
             (case side1 => repeat (first | exact (Kd.C_below HR0.out HB.out) | (with_reducible refine Kd.C_alloc ?_ _) | (with_reducible refine Kd.C_drewN ?_ _) | (with_reducible refine Kd.C_drew ?_)))
             (case side2 => exact HC0.out)
             rintro e w60 ⟨v480, rfl, ho0, hb⟩
             refine ⟨_, rfl, ?_⟩
             have n0_ := Aside0.mk (Kd.R_lower (Kd.R_newB ho0 (bU BK463.out)) (below_size (hU HB.out)))
             have n1_ := Aside0.mk (blk_below (bU BK463.out) hb)
             have n2_ := Aside0.mk (below_step (hU HB.out) hb)
             clear BK463
             clear HB
             have HO481 := n0_
             have BK463 := n1_
             have HB := n2_
             clear n0_ n1_ n2_
             (try clear hb)
             (try clear hb2)
             (try clear hk)
             (try clear hi)
             (try clear ho0)
             refine hK.out _ _ ⟨(hbC HB hw476_0), (hbC HB hw476_1), (hbC HB hw476_2), (hbC HB hw476_3), (hbC HB hw476_4), (hbC HB hw476_5), (hbC HB hw476_6), (hbC HB hw477_0), (hbC HB hw477_1), (hbC HB hw477_2), (hbC HB hw477_3), (hbC HB hw477_4), (hbC HB hw477_5), (hbC HB hw477_6)⟩ (fun hHeld => ?_)
             clear hK K
             refine nmA 89 ?_
             refine puA 13 76 (bs 18 16383) ?_
             refine puA 14 90 (bs 18 32767) ?_
             refine puA 15 91 (bs 18 65535) ?_
             refine puA 16 12 (bs 18 131071) ?_
             refine puA 17 13 (bs 18 262143) ?_
             refine done_ (done_of HT_.out (by kernel_rfl)) ?_
             have p482 : 0 ≤ (x11_1 : Int) := of_decide_eq_true (by first | (with_reducible assumption) | assumption)
             have q482 : x11_1 < (l0.length : Int) := of_decide_eq_true (by first | (with_reducible assumption) | assumption)
             obtain ⟨ad482, e482, hx482_0, hx482_1, hx482_2, hx482_3, hx482_4, hx482_5, hx482_6⟩ := at_T29 HR0.out x11_1 p482 q482
             obtain rfl : ad476 = ad482 := (by injection e482)
             replace hx482_0 := hbC HB hx482_0
             replace hx482_1 := hbC HB hx482_1
             replace hx482_2 := hbC HB hx482_2
             replace hx482_3 := hbC HB hx482_3
             replace hx482_4 := hbC HB hx482_4
             replace hx482_5 := hbC HB hx482_5
             replace hx482_6 := hbC HB hx482_6
             replace p482 := eq_true p482
             replace q482 := eq_true q482
             obtain ⟨Ao61, co61, eo61⟩ := Kd.R_slice HO481.out
             subst eo61
             try go_wp2_with (first | ((with_reducible refine gate_callee (f := 23) rfl ?_); refine goesL_ (some 99) rfl rfl Try.func23 (by kernel_rfl) rfl #[.slice Ao61 t478.length co61, .int .i64 a1, .agg #[.int .i64 ((rd_T29 l0 x11_1).f0), .int .i64 ((rd_T29 l0 x11_1).f1), .int .i64 ((rd_T29 l0 x11_1).f2), .int .i64 ((rd_T29 l0 x11_1).f3), .int .i64 ((rd_T29 l0 x11_1).f4), .int .i64 ((rd_T29 l0 x11_1).f5), .int .i64 ((rd_T29 l0 x11_1).f6)]] rfl (by (try simp only [List.map_toArray, List.map_cons, List.map_nil]); first | done | rfl | (simp only [List.length_drop, List.length_take]; rfl)) ?_; (with_reducible refine (staff_Put.calls _ _ t478 a1 ((rd_T29 l0 x11_1).f0) ((rd_T29 l0 x11_1).f1) ((rd_T29 l0 x11_1).f2) ((rd_T29 l0 x11_1).f3) ((rd_T29 l0 x11_1).f4) ((rd_T29 l0 x11_1).f5) ((rd_T29 l0 x11_1).f6) t483 t486 _ ?side1 ?side2 A53.out).mono ?_); (case side1 => repeat (first | exact (Kd.R_reads' HO481.out).2.2 | (with_reducible refine Kd.C_alloc ?_ _) | (with_reducible refine Kd.C_drewN ?_ _) | (with_reducible refine Kd.C_drew ?_))); (case side2 => exact (Kd.R_reads' HO481.out).2.1); rintro e w62 ⟨v484, rfl, ho0, hb⟩; refine ⟨_, rfl, ?_⟩; have n0_ := Aside0.mk (Kd.R_elder' (Kd.rU HO481.out) (Kd.R_base ho0) hb); have n1_ := Aside0.mk (Kd.R_lower (Kd.R_newB (Kd.R_new' ho0 (Kd.R_lt (Kd.rU HO481.out))) (bU BK463.out)) (below_size (hU HB.out))); have n2_ := Aside0.mk (blk_below (bU BK463.out) hb); have n3_ := Aside0.mk (below_step (hU HB.out) hb); clear HO481; clear BK463; clear HB; have HO481 := n0_; have HO485 := n1_; have BK463 := n2_; have HB := n3_; clear n0_ n1_ n2_ n3_; (try clear hb); (try clear hb2); (try clear hk); (try clear hi); (try clear ho0); obtain ⟨Ao63, co63, eo63⟩ := Kd.R_slice HO485.out; subst eo63) | (go_at_call 27; (with_reducible refine (dancestudioref24_Same.calls k1 _ _ t483 _ _ l0 true _ ?side1 ?side2 ?side3 ?side4 A57.out).mono ?_); (case side1 => repeat (first | exact (Kd.R_reads' HO485.out).2.2 | (with_reducible refine Kd.C_alloc ?_ _) | (with_reducible refine Kd.C_drewN ?_ _) | (with_reducible refine Kd.C_drew ?_))); (case side2 => exact (Kd.R_reads' HO485.out).2.1); (case side3 => repeat (first | exact (Kd.C_below HR0.out HB.out) | (with_reducible refine Kd.C_alloc ?_ _) | (with_reducible refine Kd.C_drewN ?_ _) | (with_reducible refine Kd.C_drew ?_))); (case side4 => exact HC0.out); rintro e w' ⟨rfl, ⟨nd, rfl⟩⟩))
             go_roundg k1
             case measure => have := HK1.out; omega
             case rel => exact ⟨(wrap64 (x11_1 + 1)), (by first | rfl | (simp; done) | (simp [*]; done)), H', ⟨by have := HK1.out; omega⟩, ⟨by (with_reducible repeat (first | refine blk_drewN ?_ _ | refine blk_drew ?_ | refine blk_alloc ?_ _)); exact BK463.out⟩, ⟨hU HB.out⟩⟩
            ·replace c58 := Bool.eq_false_iff.mpr c58
             subst c58
             have H1 : (none) = some r := by rw [if_neg (show ¬ (false = true) by decide)] at H; exact H
             clear H
             have H := H1
             clear H1
             exact absurd H (by simp)
           ·rw [if_neg c56] at H
            exact absurd H (by simp)
          ·rw [if_neg c55] at H
           exact absurd H (by simp)
         ·rw [if_neg c54] at H
          exact absurd H (by simp)
        ·rw [if_neg c51] at H
         exact absurd H (by simp)
       ·rw [if_neg c50] at H
        have c50b0 : decide (x11_1 < (l0.length : Int)) = false := decide_eq_false c50
        clear c50
        replace H := Option.bind_eq_some_iff.mp H
        obtain ⟨t488, A640, H⟩ := H
        replace H : (some t488) = some r := H
        have A64 := Aside0.mk A640
        clear A640
        obtain rfl := Option.some.inj H
        go_wp2_with (first | ((with_reducible refine gate_callee (f := 22) rfl ?_); refine goesL_ (some 122) rfl rfl Try.func22 (by kernel_rfl) rfl #[] rfl (by (try simp only [List.map_toArray, List.map_cons, List.map_nil]); first | done | rfl | (simp only [List.length_drop, List.length_take]; rfl)) ?_; (with_reducible refine (dancestudiolaw24_awake.calls k1  t488 _ A64.out).mono ?_); rintro e w65 ⟨rfl, hb⟩; refine ⟨_, rfl, ?_⟩; have n0_ := Aside0.mk (blk_below (bU BK463.out) hb); have n1_ := Aside0.mk (below_step (hU HB.out) hb); clear BK463; clear HB; have BK463 := n0_; have HB := n1_; clear n0_ n1_; (try clear hb); (try clear hb2); (try clear hk); (try clear hi)))
        go_ret
        exact ⟨by first | rfl | (simp [errW_none, errW_some] <;> rfl) | (simp [*, errW_none, errW_some] <;> rfl), hU HB.out⟩
    ·rw [if_neg c44] at H
     exact absurd H (by simp)
  ·rw [if_neg c9] at H
   have c9b0 : (t465 == 0) = false := beq_eq_false_iff_ne.mpr c9
   have c9b1 : (t465 != 0) = true := bne_iff_ne.mpr c9
   replace H := Option.bind_eq_some_iff.mp H
   obtain ⟨t489, A660, H⟩ := H
   replace H : (some t489) = some r := H
   have A66 := Aside0.mk A660
   clear A660
   obtain rfl := Option.some.inj H
   go_enter Try.func10, Try.ntmps10
   go_wp2_with (first | ((with_reducible refine gate_dst (N := 5) rfl ?_); (try (refine gate_guard (by rfl) ?_; dsimp only)); refine box_event ?hg (N := 5) ?hd (cs := #[.int .i64 a2_0, .int .i64 a2_1, .int .i64 a2_2, .int .i64 a2_3, .int .i64 a2_4, .int .i64 a2_5, .int .i64 a2_6]) (t := 29) ?hr ?_; (case hd => rfl); (case hg => rfl); (case hr => first | (go_simp; done) | (go_simp; rfl)); intro gb463 hg w67 hbox hb; have n0_ := Aside0.mk (below_step (hU HB.out) hb); have n1_ := Aside0.mk (hbox); have n2_ := Aside0.mk ((by rw [hg]; exact (below_size (hU HB.out)) : w.heap.size ≤ gb463)); have n3_ := Aside0.mk ((by rw [hg]; exact (below_size (hU HB.out)) : w.heap.size ≤ gb463)); clear HB; have HB := n0_; have BK463 := n1_; have GW463 := n2_; have GE463 := n3_; clear n0_ n1_ n2_ n3_; clear hb hbox hg) | (go_at_call 20; (with_reducible refine (staff_Check.calls _ _ l0 a1 t465 _ ?side1 ?side2 A8.out).mono ?_); (case side1 => repeat (first | exact (Kd.C_below HR0.out HB.out) | (with_reducible refine Kd.C_alloc ?_ _) | (with_reducible refine Kd.C_drewN ?_ _) | (with_reducible refine Kd.C_drew ?_))); (case side2 => exact HC0.out); rintro e w68 ⟨rfl, hb⟩; have n0_ := Aside0.mk (blk_below (bU BK463.out) hb); have n1_ := Aside0.mk (below_step (hU HB.out) hb); clear BK463; clear HB; have BK463 := n0_; have HB := n1_; clear n0_ n1_; (try clear hb); (try clear hb2); (try clear hk); (try clear hi)) | ((with_reducible refine gate_callee (f := 22) rfl ?_); refine goesL_ (some 25) rfl rfl Try.func22 (by kernel_rfl) rfl #[] rfl (by (try simp only [List.map_toArray, List.map_cons, List.map_nil]); first | done | rfl | (simp only [List.length_drop, List.length_take]; rfl)) ?_; (with_reducible refine (dancestudiolaw24_awake.calls k  t489 _ A66.out).mono ?_); rintro e w69 ⟨rfl, hb⟩; refine ⟨_, rfl, ?_⟩; have n0_ := Aside0.mk (blk_below (bU BK463.out) hb); have n1_ := Aside0.mk (below_step (hU HB.out) hb); clear BK463; clear HB; have BK463 := n0_; have HB := n1_; clear n0_ n1_; (try clear hb); (try clear hb2); (try clear hk); (try clear hi)))
   go_ret
   exact ⟨by first | rfl | (simp [errW_none, errW_some] <;> rfl) | (simp [*, errW_none, errW_some] <;> rfl), hU HB.out⟩

end Go.Proofs.Ytdilndbanhianaa.P

-- Written by a program of this session (myprint.py over the kit's print): the Go functions of the seat as Lean functions, and what their calls do.
import Derived.Test.YtdilndbanhianaaVReg
import Derived.Test.YtdilndbanhianaaVMA
import Derived.Test.YtdilndbanhianaaP34
import Derived.Test.YtdilndbanhianaaP35
import Derived.Test.YtdilndbanhianaaP42
import Derived.Test.YtdilndbanhianaaP47
import Derived.Test.YtdilndbanhianaaP48
import Derived.Test.YtdilndbanhianaaRpCheck
namespace Go.Proofs.Ytdilndbanhianaa.P
open Go.RowKit Go.Proofs.YtdilndbanhianaaW.PrintWords Go.Proofs.YtdilndbanhianaaW.PrintLast Go.Proofs.YtdilndbanhianaaW.PrintMore
attribute [local go_sem] max2_int min2_int max_two min_two max_three min_three max_four min_four   -- for this text's walks alone
set_option linter.unusedVariables false
set_option linter.unusedSimpArgs false

/-! ### dancestudiolaw26_RepeatsChecks: function 12 -/
def dancestudiolaw26_RepeatsChecks.f (k : Nat) (l0_0 : List (S29)) (a0_1 : Int) (l0_2 : List (S61)) : Option (Bool) := (dancestudiolaw26_great.f l0_0 a0_1 l0_2).bind fun t814 => (if t814 = true then ((dancestudiolaw26_awake.f k).bind fun t815 => (some t815)) else ((repeats_Length.f l0_0 a0_1 l0_2).bind fun bt816 => ((dancestudioref26_Length.f k l0_0 a0_1 l0_2).bind fun bt818 => ((repeats_Check.f l0_0 a0_1 l0_2).bind fun t820 => ((dancestudioref26_Check.f k l0_0 a0_1 l0_2).bind fun t821 => (if t820 = t821 then (if bt816.1 = bt818.1 then (if bt816.2 = bt818.2 then ((dancestudiolaw26_awake.f k).bind fun t822 => (some t822)) else (none)) else (none)) else (none)))))))
theorem dancestudiolaw26_RepeatsChecks.mono : ∀ a0 a1 a2 k, LeO (dancestudiolaw26_RepeatsChecks.f k a0 a1 a2) (dancestudiolaw26_RepeatsChecks.f (k + 1) a0 a1 a2) := by
 intro a0 a1 a2 k
 unfold dancestudiolaw26_RepeatsChecks.f
 repeat' first
   | (with_reducible exact dancestudiolaw26_awake.mono _)
   | (with_reducible exact dancestudioref26_Check.mono _ _ _ _)
   | (with_reducible exact dancestudioref26_Length.mono _ _ _ _)
   | (with_reducible exact LeO.refl _)
   | (with_reducible exact LeO.none _)
   | (with_reducible refine LeO.ite ?_ ?_)
   | (with_reducible refine LeO.bind ?_ (fun _ => ?_))
   | exact dancestudiolaw26_awake.mono _
   | exact dancestudioref26_Check.mono _ _ _ _
   | exact dancestudioref26_Length.mono _ _ _ _
   | exact LeO.none _
   | refine LeO.ite ?_ ?_
   | refine LeO.bind ?_ (fun _ => ?_)
def dancestudiolaw26_RepeatsChecks.T5 : Bool × List (List Nat × List Nat) := (true, [([], []), ([0], [0]), ([], []), ([2], [2]), ([], []), ([4], [4]), ([1, 3, 5], [1, 3, 5]), ([], []), ([7], [7]), ([], []), ([9], [9]), ([], []), ([11], [11]), ([8, 10, 12, 6], [8, 10, 12]), ([6, 13], [6, 13]), ([14, 13], [14]), ([15], [15]), ([15], [15]), ([16, 17, 15], [15, 16, 17]), ([15, 18], [15, 18]), ([19, 15], [19]), ([20], [20]), ([20], [20]), ([21, 22, 20], [20, 21, 22]), ([20, 23], [20, 23]), ([24, 20], [24]), ([25, 25], [25]), ([25, 26], [25, 26]), ([27, 26, 0, 1, 2, 3, 4, 5, 6, 7, 8, 9, 10, 11, 12, 13, 14, 15, 16, 17, 18, 19, 20, 21, 22, 23, 24, 25, 26, 27], [27])])
def dancestudiolaw26_RepeatsChecks.B5 : List Nat := [0, 1, 0, 4, 0, 16, 63, 0, 128, 0, 512, 0, 2048, 8191, 16383, 32767, 65535, 65535, 262143, 524287, 1048575, 2097151, 2097151, 8388607, 16777215, 33554431, 67108863, 134217727, 268435455]
theorem dancestudiolaw26_RepeatsChecks.tab5 : rtab .any (opsOf Try.f12 5) = dancestudiolaw26_RepeatsChecks.T5 := by kernel_rfl
theorem dancestudiolaw26_RepeatsChecks.bits5 : waitsOk dancestudiolaw26_RepeatsChecks.T5.2 dancestudiolaw26_RepeatsChecks.B5 = true := by kernel_rfl
set_option maxHeartbeats 8000000 in
set_option maxRecDepth 100000 in
theorem dancestudiolaw26_RepeatsChecks.calls (k : Nat) (A0_0 : Option Addr) (c0_0 : Nat) (l0_0 : List (S29)) (a0_1 : Int) (A0_2 : Option Addr) (c0_2 : Nat) (l0_2 : List (S61)) (r : Bool) (w : World) (hr0_0 : Kd.C k29 w A0_0 l0_0.length l0_0) (hc0_0 : l0_0.length ≤ c0_0) (hr0_2 : Kd.C k61 w A0_2 l0_2.length l0_2) (hc0_2 : l0_2.length ≤ c0_2) (h : dancestudiolaw26_RepeatsChecks.f k l0_0 a0_1 l0_2 = some r) :
  Calls Try.prog 12 #[.agg #[.slice A0_0 l0_0.length c0_0, .int .i64 a0_1, .slice A0_2 l0_2.length c0_2]] w fun e w' => e = .returned (.bool r) ∧ Below w.heap.size w w' := by
 have hu51 := Try.underlying51
 have HR0_0 := Aside0.mk hr0_0
 have HC0_0 := Aside0.mk hc0_0
 clear hr0_0 hc0_0
 have HR0_2 := Aside0.mk hr0_2
 have HC0_2 := Aside0.mk hc0_2
 clear hr0_2 hc0_2
 have HB := Aside0.mk (Below.refl w.heap.size w)
 have H : ((dancestudiolaw26_great.f l0_0 a0_1 l0_2).bind fun t814 => (if t814 = true then ((dancestudiolaw26_awake.f k).bind fun t815 => (some t815)) else ((repeats_Length.f l0_0 a0_1 l0_2).bind fun bt816 => ((dancestudioref26_Length.f k l0_0 a0_1 l0_2).bind fun bt818 => ((repeats_Check.f l0_0 a0_1 l0_2).bind fun t820 => ((dancestudioref26_Check.f k l0_0 a0_1 l0_2).bind fun t821 => (if t820 = t821 then (if bt816.1 = bt818.1 then (if bt816.2 = bt818.2 then ((dancestudiolaw26_awake.f k).bind fun t822 => (some t822)) else (none)) else (none)) else (none)))))))) = some r := h
 clear h
 replace H := Option.bind_eq_some_iff.mp H
 obtain ⟨t814, A20, H⟩ := H
 try dsimp only at H
 have A2 := Aside0.mk A20
 clear A20
 by_cases c3 : t814 = true
 ·subst c3
  have H1 : ((dancestudiolaw26_awake.f k).bind fun t815 => (some t815)) = some r := by rw [if_pos rfl] at H; exact H
  clear H
  have H := H1
  clear H1
  replace H := Option.bind_eq_some_iff.mp H
  obtain ⟨t815, A40, H⟩ := H
  replace H : (some t815) = some r := H
  have A4 := Aside0.mk A40
  clear A40
  obtain rfl := Option.some.inj H
  go_enter Try.func12, Try.ntmps12
  go_wp2_with (first | ((with_reducible refine gate_dst (N := 1) rfl ?_); refine box_event ?hg (N := 1) ?hd (cs := #[.slice A0_0 l0_0.length c0_0, .int .i64 a0_1, .slice A0_2 l0_2.length c0_2]) (t := 51) ?hr ?_; (case hd => rfl); (case hg => rfl); (case hr => first | (go_simp; done) | (go_simp; rfl)); intro gb813 hg w5 hbox hb; have n0_ := Aside0.mk (below_step (hU HB.out) hb); have n1_ := Aside0.mk (hbox); have n2_ := Aside0.mk ((by rw [hg]; exact (below_size (hU HB.out)) : w.heap.size ≤ gb813)); have n3_ := Aside0.mk ((by rw [hg]; exact (below_size (hU HB.out)) : w.heap.size ≤ gb813)); clear HB; have HB := n0_; have BK813 := n1_; have GW813 := n2_; have GE813 := n3_; clear n0_ n1_ n2_ n3_; clear hb hbox hg; have hcz6_0 := blk_cell BK813.out; have hfz6_0 := blk_frozen BK813.out) | ((with_reducible refine gate_callee (f := 36) rfl ?_); refine goesL_ (some 8) rfl rfl Try.func36 (by kernel_rfl) rfl #[.agg #[.slice A0_0 l0_0.length c0_0, .int .i64 a0_1, .slice A0_2 l0_2.length c0_2]] rfl (by (try simp only [List.map_toArray, List.map_cons, List.map_nil]); first | done | rfl | (simp only [List.length_drop, List.length_take]; rfl)) ?_; (with_reducible refine (dancestudiolaw26_great.calls _ _ l0_0 a0_1 _ _ l0_2 true _ ?side1 ?side2 ?side3 ?side4 A2.out).mono ?_); (case side1 => repeat (first | exact (Kd.C_below HR0_0.out HB.out) | (with_reducible refine Kd.C_alloc ?_ _) | (with_reducible refine Kd.C_drewN ?_ _) | (with_reducible refine Kd.C_drew ?_))); (case side2 => exact HC0_0.out); (case side3 => repeat (first | exact (Kd.C_below HR0_2.out HB.out) | (with_reducible refine Kd.C_alloc ?_ _) | (with_reducible refine Kd.C_drewN ?_ _) | (with_reducible refine Kd.C_drew ?_))); (case side4 => exact HC0_2.out); rintro e w7 ⟨rfl, hb⟩; refine ⟨_, rfl, ?_⟩; have n0_ := Aside0.mk (blk_below (bU BK813.out) hb); have n1_ := Aside0.mk (below_step (hU HB.out) hb); clear BK813; clear HB; have BK813 := n0_; have HB := n1_; clear n0_ n1_; (try clear hb); (try clear hb2); (try clear hk); (try clear hi)) | ((with_reducible refine gate_callee (f := 37) rfl ?_); refine goesL_ (some 9) rfl rfl Try.func37 (by kernel_rfl) rfl #[] rfl (by (try simp only [List.map_toArray, List.map_cons, List.map_nil]); first | done | rfl | (simp only [List.length_drop, List.length_take]; rfl)) ?_; (with_reducible refine (dancestudiolaw26_awake.calls k  t815 _ A4.out).mono ?_); rintro e w8 ⟨rfl, hb⟩; refine ⟨_, rfl, ?_⟩; have n0_ := Aside0.mk (blk_below (bU BK813.out) hb); have n1_ := Aside0.mk (below_step (hU HB.out) hb); clear BK813; clear HB; have BK813 := n0_; have HB := n1_; clear n0_ n1_; (try clear hb); (try clear hb2); (try clear hk); (try clear hi)))
  go_ret
  exact ⟨by first | rfl | (simp [errW_none, errW_some] <;> rfl) | (simp [*, errW_none, errW_some] <;> rfl), hU HB.out⟩
 ·replace c3 := Bool.eq_false_iff.mpr c3
  subst c3
  rw [if_neg (show ¬ (false = true) by decide)] at H
  replace H := Option.bind_eq_some_iff.mp H
  obtain ⟨⟨t816, t817⟩, A90, H⟩ := H
  try dsimp only at H
  have A9 := Aside0.mk A90
  clear A90
  replace H := Option.bind_eq_some_iff.mp H
  obtain ⟨⟨t818, t819⟩, A100, H⟩ := H
  try dsimp only at H
  have A10 := Aside0.mk A100
  clear A100
  replace H := Option.bind_eq_some_iff.mp H
  obtain ⟨t820, A110, H⟩ := H
  try dsimp only at H
  have A11 := Aside0.mk A110
  clear A110
  replace H := Option.bind_eq_some_iff.mp H
  obtain ⟨t821, A120, H⟩ := H
  try dsimp only at H
  have A12 := Aside0.mk A120
  clear A120
  by_cases c13 : t820 = t821
  ·rw [if_pos c13] at H
   have c13b0 : (t820 == t821) = true := beq_iff_eq.mpr c13
   have c13b1 : (t820 != t821) = false := bne_eq_false_iff_eq.mpr c13
   clear c13
   by_cases c14 : t816 = t818
   ·rw [if_pos c14] at H
    have c14b0 : (t816 == t818) = true := beq_iff_eq.mpr c14
    have c14b1 : (t816 != t818) = false := bne_eq_false_iff_eq.mpr c14
    clear c14
    by_cases c15 : t817 = t819
    ·rw [if_pos c15] at H
     have c15b0 : (t817 == t819) = true := beq_iff_eq.mpr c15
     have c15b1 : (t817 != t819) = false := bne_eq_false_iff_eq.mpr c15
     clear c15
     replace H := Option.bind_eq_some_iff.mp H
     obtain ⟨t822, A160, H⟩ := H
     replace H : (some t822) = some r := H
     have A16 := Aside0.mk A160
     clear A160
     obtain rfl := Option.some.inj H
     go_enter Try.func12, Try.ntmps12
     try go_wp2_with (first | ((with_reducible refine gate_dst (N := 1) rfl ?_); refine box_event ?hg (N := 1) ?hd (cs := #[.slice A0_0 l0_0.length c0_0, .int .i64 a0_1, .slice A0_2 l0_2.length c0_2]) (t := 51) ?hr ?_; (case hd => rfl); (case hg => rfl); (case hr => first | (go_simp; done) | (go_simp; rfl)); intro gb813 hg w17 hbox hb; have n0_ := Aside0.mk (below_step (hU HB.out) hb); have n1_ := Aside0.mk (hbox); have n2_ := Aside0.mk ((by rw [hg]; exact (below_size (hU HB.out)) : w.heap.size ≤ gb813)); have n3_ := Aside0.mk ((by rw [hg]; exact (below_size (hU HB.out)) : w.heap.size ≤ gb813)); clear HB; have HB := n0_; have BK813 := n1_; have GW813 := n2_; have GE813 := n3_; clear n0_ n1_ n2_ n3_; clear hb hbox hg; have hcz18_0 := blk_cell BK813.out; have hfz18_0 := blk_frozen BK813.out) | ((with_reducible refine gate_callee (f := 36) rfl ?_); refine goesL_ (some 8) rfl rfl Try.func36 (by kernel_rfl) rfl #[.agg #[.slice A0_0 l0_0.length c0_0, .int .i64 a0_1, .slice A0_2 l0_2.length c0_2]] rfl (by (try simp only [List.map_toArray, List.map_cons, List.map_nil]); first | done | rfl | (simp only [List.length_drop, List.length_take]; rfl)) ?_; (with_reducible refine (dancestudiolaw26_great.calls _ _ l0_0 a0_1 _ _ l0_2 false _ ?side1 ?side2 ?side3 ?side4 A2.out).mono ?_); (case side1 => repeat (first | exact (Kd.C_below HR0_0.out HB.out) | (with_reducible refine Kd.C_alloc ?_ _) | (with_reducible refine Kd.C_drewN ?_ _) | (with_reducible refine Kd.C_drew ?_))); (case side2 => exact HC0_0.out); (case side3 => repeat (first | exact (Kd.C_below HR0_2.out HB.out) | (with_reducible refine Kd.C_alloc ?_ _) | (with_reducible refine Kd.C_drewN ?_ _) | (with_reducible refine Kd.C_drew ?_))); (case side4 => exact HC0_2.out); rintro e w19 ⟨rfl, hb⟩; refine ⟨_, rfl, ?_⟩; have n0_ := Aside0.mk (blk_below (bU BK813.out) hb); have n1_ := Aside0.mk (below_step (hU HB.out) hb); clear BK813; clear HB; have BK813 := n0_; have HB := n1_; clear n0_ n1_; (try clear hb); (try clear hb2); (try clear hk); (try clear hi); have hcz20_0 := blk_cell BK813.out; have hfz20_0 := blk_frozen BK813.out) | ((with_reducible refine gate_callee (f := 38) rfl ?_); refine goesL_ (some 17) rfl rfl Try.func38 (by kernel_rfl) rfl #[.slice A0_0 l0_0.length c0_0, .int .i64 a0_1, .slice A0_2 l0_2.length c0_2] rfl (by (try simp only [List.map_toArray, List.map_cons, List.map_nil]); first | done | rfl | (simp only [List.length_drop, List.length_take]; rfl)) ?_; (with_reducible refine (repeats_Length.calls _ _ l0_0 a0_1 _ _ l0_2 t816 t817 _ ?side1 ?side2 ?side3 ?side4 A9.out).mono ?_); (case side1 => repeat (first | exact (Kd.C_below HR0_0.out HB.out) | (with_reducible refine Kd.C_alloc ?_ _) | (with_reducible refine Kd.C_drewN ?_ _) | (with_reducible refine Kd.C_drew ?_))); (case side2 => exact HC0_0.out); (case side3 => repeat (first | exact (Kd.C_below HR0_2.out HB.out) | (with_reducible refine Kd.C_alloc ?_ _) | (with_reducible refine Kd.C_drewN ?_ _) | (with_reducible refine Kd.C_drew ?_))); (case side4 => exact HC0_2.out); rintro e w21 ⟨rfl, hb⟩; refine ⟨_, rfl, ?_⟩; have n0_ := Aside0.mk (blk_below (bU BK813.out) hb); have n1_ := Aside0.mk (below_step (hU HB.out) hb); clear BK813; clear HB; have BK813 := n0_; have HB := n1_; clear n0_ n1_; (try clear hb); (try clear hb2); (try clear hk); (try clear hi); have hcz22_0 := blk_cell BK813.out; have hfz22_0 := blk_frozen BK813.out) | ((with_reducible refine gate_callee (f := 39) rfl ?_); refine goesL_ (some 27) rfl rfl Try.func39 (by kernel_rfl) rfl #[.slice A0_0 l0_0.length c0_0, .int .i64 a0_1, .slice A0_2 l0_2.length c0_2] rfl (by (try simp only [List.map_toArray, List.map_cons, List.map_nil]); first | done | rfl | (simp only [List.length_drop, List.length_take]; rfl)) ?_; (with_reducible refine (dancestudioref26_Length.calls k _ _ l0_0 a0_1 _ _ l0_2 t818 t819 _ ?side1 ?side2 ?side3 ?side4 A10.out).mono ?_); (case side1 => repeat (first | exact (Kd.C_below HR0_0.out HB.out) | (with_reducible refine Kd.C_alloc ?_ _) | (with_reducible refine Kd.C_drewN ?_ _) | (with_reducible refine Kd.C_drew ?_))); (case side2 => exact HC0_0.out); (case side3 => repeat (first | exact (Kd.C_below HR0_2.out HB.out) | (with_reducible refine Kd.C_alloc ?_ _) | (with_reducible refine Kd.C_drewN ?_ _) | (with_reducible refine Kd.C_drew ?_))); (case side4 => exact HC0_2.out); rintro e w23 ⟨rfl, hb⟩; refine ⟨_, rfl, ?_⟩; have n0_ := Aside0.mk (blk_below (bU BK813.out) hb); have n1_ := Aside0.mk (below_step (hU HB.out) hb); clear BK813; clear HB; have BK813 := n0_; have HB := n1_; clear n0_ n1_; (try clear hb); (try clear hb2); (try clear hk); (try clear hi)))
     have n0_ := Aside0.mk (blk_drew BK813.out)
     have n1_ := Aside0.mk (below_drew1 HB.out)
     clear BK813
     clear HB
     have BK813 := n0_
     have HB := n1_
     clear n0_ n1_
     refine start_ (n := 29) (S := fun w' => w'.cell? ⟨gb813, 0, none⟩ = some (.slice A0_0 l0_0.length c0_0) ∧ w'.cell? ⟨gb813, 1, none⟩ = some (.int .i64 a0_1) ∧ w'.cell? ⟨gb813, 2, none⟩ = some (.slice A0_2 l0_2.length c0_2)) (ds := []) #[false, false, false, false, false, false, false, false, false, false, false, false, false, false, false, false, false, false, false, false, false, false, false, false, false, false, false, false, false] (by kernel_rfl) rfl rfl ⟨(blk_cell BK813.out 0).trans rfl, (blk_cell BK813.out 1).trans rfl, (blk_cell BK813.out 2).trans rfl⟩ (fun hHeld => ?_); refine with_tabW dancestudiolaw26_RepeatsChecks.tab5 dancestudiolaw26_RepeatsChecks.bits5 (fun HT_ HW_ => ?_)
     generalize w23.drew = w24 at BK813 HB hHeld ⊢
     refine puA 0 30 (bs 29 1) ?_
     refine puA 2 32 (bs 29 5) ?_
     refine puA 4 34 (bs 29 21) ?_
     refine puA 7 37 (bs 29 149) ?_
     refine puA 9 39 (bs 29 661) ?_
     refine puA 11 41 (bs 29 2709) ?_
     refine tkA 1 31 (bs 29 2711) hHeld ?_
     refine tkA 3 33 (bs 29 2719) hHeld ?_
     refine tkA 5 35 (bs 29 2751) hHeld ?_
     refine tkA 8 38 (bs 29 3007) hHeld ?_
     refine tkA 10 40 (bs 29 4031) hHeld ?_
     refine tkA 12 42 (bs 29 8127) hHeld ?_
     refine one_ (i := 6) (N := some 36) (bs 29 8191) rfl rfl (one_of HT_.out (by kernel_rfl)) (by decide) (fun K hK => ?_)
     refine goes_ Try.func40 (by kernel_rfl) rfl #[.slice A0_0 l0_0.length c0_0, .int .i64 a0_1, .slice A0_2 l0_2.length c0_2] (by rfl) rfl rfl (by (try simp only [List.map_toArray, List.map_cons, List.map_nil]); first | done | rfl | (simp only [List.length_drop, List.length_take]; rfl)) ?_
     with_reducible refine (repeats_Check.calls _ _ l0_0 a0_1 _ _ l0_2 t820 _ ?side1 ?side2 ?side3 ?side4 A11.out).mono ?_
     (case side1 => repeat (first | exact (Kd.C_below HR0_0.out HB.out) | (with_reducible refine Kd.C_alloc ?_ _) | (with_reducible refine Kd.C_drewN ?_ _) | (with_reducible refine Kd.C_drew ?_)))
     (case side2 => exact HC0_0.out)
     (case side3 => repeat (first | exact (Kd.C_below HR0_2.out HB.out) | (with_reducible refine Kd.C_alloc ?_ _) | (with_reducible refine Kd.C_drewN ?_ _) | (with_reducible refine Kd.C_drew ?_)))
     (case side4 => exact HC0_2.out)
     rintro e w25 ⟨rfl, hb⟩
     refine ⟨_, rfl, ?_⟩
     have n0_ := Aside0.mk (blk_below (bU BK813.out) hb)
     have n1_ := Aside0.mk (below_step (hU HB.out) hb)
     clear BK813
     clear HB
     have BK813 := n0_
     have HB := n1_
     clear n0_ n1_
     (try clear hb)
     (try clear hb2)
     (try clear hk)
     (try clear hi)
     refine hK.out _ _ ⟨(blk_cell BK813.out 0).trans rfl, (blk_cell BK813.out 1).trans rfl, (blk_cell BK813.out 2).trans rfl⟩ (fun hHeld => ?_)
     clear hK K
     refine nmA 36 ?_
     refine one_ (i := 13) (N := some 43) (bs 29 16383) rfl rfl (one_of HT_.out (by kernel_rfl)) (by decide) (fun K hK => ?_)
     refine goes_ Try.func41 (by kernel_rfl) rfl #[.slice A0_0 l0_0.length c0_0, .int .i64 a0_1, .slice A0_2 l0_2.length c0_2] (by rfl) rfl rfl (by (try simp only [List.map_toArray, List.map_cons, List.map_nil]); first | done | rfl | (simp only [List.length_drop, List.length_take]; rfl)) ?_
     with_reducible refine (dancestudioref26_Check.calls k _ _ l0_0 a0_1 _ _ l0_2 t821 _ ?side1 ?side2 ?side3 ?side4 A12.out).mono ?_
     (case side1 => repeat (first | exact (Kd.C_below HR0_0.out HB.out) | (with_reducible refine Kd.C_alloc ?_ _) | (with_reducible refine Kd.C_drewN ?_ _) | (with_reducible refine Kd.C_drew ?_)))
     (case side2 => exact HC0_0.out)
     (case side3 => repeat (first | exact (Kd.C_below HR0_2.out HB.out) | (with_reducible refine Kd.C_alloc ?_ _) | (with_reducible refine Kd.C_drewN ?_ _) | (with_reducible refine Kd.C_drew ?_)))
     (case side4 => exact HC0_2.out)
     rintro e w26 ⟨rfl, hb⟩
     refine ⟨_, rfl, ?_⟩
     have n0_ := Aside0.mk (blk_below (bU BK813.out) hb)
     have n1_ := Aside0.mk (below_step (hU HB.out) hb)
     clear BK813
     clear HB
     have BK813 := n0_
     have HB := n1_
     clear n0_ n1_
     (try clear hb)
     (try clear hb2)
     (try clear hk)
     (try clear hi)
     refine hK.out _ _ ⟨(blk_cell BK813.out 0).trans rfl, (blk_cell BK813.out 1).trans rfl, (blk_cell BK813.out 2).trans rfl⟩ (fun hHeld => ?_)
     clear hK K
     refine nmA 43 ?_
     refine puA 14 44 (bs 29 32767) ?_
     refine puA 15 45 (bs 29 65535) ?_
     refine puA 16 46 (bs 29 131071) ?_
     refine puA 17 47 (bs 29 262143) ?_
     refine puA 18 48 (bs 29 524287) ?_
     refine puA 19 49 (bs 29 1048575) ?_
     refine puA 20 50 (bs 29 2097151) ?_
     refine puA 21 51 (bs 29 4194303) ?_
     refine puA 22 52 (bs 29 8388607) ?_
     refine puA 23 53 (bs 29 16777215) ?_
     refine puA 24 54 (bs 29 33554431) ?_
     refine puA 25 55 (bs 29 67108863) ?_
     refine one_ (i := 26) (N := some 56) (bs 29 134217727) rfl rfl (one_of HT_.out (by kernel_rfl)) (by decide) (fun K hK => ?_)
     refine goes_ Try.func37 (by kernel_rfl) rfl #[] (by rfl) rfl rfl (by (try simp only [List.map_toArray, List.map_cons, List.map_nil]); first | done | rfl | (simp only [List.length_drop, List.length_take]; rfl)) ?_
     with_reducible refine (dancestudiolaw26_awake.calls k  t822 _ A16.out).mono ?_
     rintro e w27 ⟨rfl, hb⟩
     refine ⟨_, rfl, ?_⟩
     have n0_ := Aside0.mk (blk_below (bU BK813.out) hb)
     have n1_ := Aside0.mk (below_step (hU HB.out) hb)
     clear BK813
     clear HB
     have BK813 := n0_
     have HB := n1_
     clear n0_ n1_
     (try clear hb)
     (try clear hb2)
     (try clear hk)
     (try clear hi)
     refine hK.out _ _ ⟨(blk_cell BK813.out 0).trans rfl, (blk_cell BK813.out 1).trans rfl, (blk_cell BK813.out 2).trans rfl⟩ (fun hHeld => ?_)
     clear hK K
     refine nmA 56 ?_
     refine puA 27 57 (bs 29 268435455) ?_
     refine puA 28 2 (bs 29 536870911) ?_
     refine done_ (done_of HT_.out (by kernel_rfl)) ?_
     try go_wp2
     go_ret
     exact ⟨by first | rfl | (simp [errW_none, errW_some] <;> rfl) | (simp [*, errW_none, errW_some] <;> rfl), hU HB.out⟩
    ·rw [if_neg c15] at H
     exact absurd H (by simp)
   ·rw [if_neg c14] at H
    exact absurd H (by simp)
  ·rw [if_neg c13] at H
   exact absurd H (by simp)

end Go.Proofs.Ytdilndbanhianaa.P

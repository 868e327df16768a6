-- Written by a program of this session (myprint.py over the kit's print): the Go functions of the seat as Lean functions, and what their calls do.
import Derived.Test.YtdilndbanhianaaVReg
import Derived.Test.YtdilndbanhianaaVMA
import Derived.Test.YtdilndbanhianaaP34
import Derived.Test.YtdilndbanhianaaP35
import Derived.Test.YtdilndbanhianaaP42
import Derived.Test.YtdilndbanhianaaRpCheck
import Derived.Test.YtdilndbanhianaaRpPerform
import Derived.Test.YtdilndbanhianaaVMC
namespace Go.Proofs.Ytdilndbanhianaa.P
open Go.RowKit Go.Proofs.YtdilndbanhianaaW.PrintWords Go.Proofs.YtdilndbanhianaaW.PrintLast Go.Proofs.YtdilndbanhianaaW.PrintMore
attribute [local go_sem] max2_int min2_int max_two min_two max_three min_three max_four min_four   -- for this text's walks alone
set_option linter.unusedVariables false
set_option linter.unusedSimpArgs false

/-! ### dancestudiolaw26_RepeatsValid: function 15 -/
mutual
def dancestudiolaw26_RepeatsValid.l0 : Nat → List (S29) → Int → Int → Int → Int → List (S29) → Int → List (S61) → Option (Bool)
 | 0, _, _, _, _, _, _, _, _ => none
 | k + 1, x3, x5, x7, x8, x9, x901000, x901001, x901002 => if x9 < (x901002.length : Int) then (if 0 ≤ x9 then (if ((rd_T61 x901002 x9).f0.f0) < 0 then (none) else (if ((rd_T61 x901002 x9).f0.f1) > 8192 then (none) else (if ((rd_T61 x901002 x9).f0.f0) ≥ ((rd_T61 x901002 x9).f0.f1) then (none) else (if (wrap64 (((rd_T61 x901002 x9).f1) - 1)) < 1 then (none) else (if (wrap64 (((rd_T61 x901002 x9).f1) - 1)) > 15 then (none) else (dancestudiolaw26_RepeatsValid.l1 k x3 x5 (wrap64 (x7 + (wrap64 ((wrap64 (((rd_T61 x901002 x9).f0.f1) - ((rd_T61 x901002 x9).f0.f0))) * (wrap64 (((rd_T61 x901002 x9).f1) - 1)))))) x8 x9 (wrap64 (((rd_T61 x901002 x9).f1) - 1)) 0 x901000 x901001 x901002 ((rd_T61 x901002 x9).f0.f0) ((rd_T61 x901002 x9).f0.f1))))))) else (none)) else (if x7 = x5 then (if x8 = (x3.length : Int) then ((dancestudiolaw26_awake.f k).bind fun t915 => (some t915)) else (none)) else (none))
def dancestudiolaw26_RepeatsValid.l1 : Nat → List (S29) → Int → Int → Int → Int → Int → Int → List (S29) → Int → List (S61) → Int → Int → Option (Bool)
 | 0, _, _, _, _, _, _, _, _, _, _, _, _ => none
 | k + 1, x3, x5, x7, x8, x9, x11, x12, x901000, x901001, x901002, x913000, x913001 => if x12 < (x901000.length : Int) then (if 0 ≤ x12 then (if ((rd_T29 x901000 x12).f2) ≥ x913000 then (if ((rd_T29 x901000 x12).f2) < x913001 then (dancestudiolaw26_RepeatsValid.l1 k x3 x5 x7 (wrap64 (x8 + x11)) x9 x11 (wrap64 (x12 + 1)) x901000 x901001 x901002 x913000 x913001) else (dancestudiolaw26_RepeatsValid.l1 k x3 x5 x7 x8 x9 x11 (wrap64 (x12 + 1)) x901000 x901001 x901002 x913000 x913001)) else (dancestudiolaw26_RepeatsValid.l1 k x3 x5 x7 x8 x9 x11 (wrap64 (x12 + 1)) x901000 x901001 x901002 x913000 x913001)) else (none)) else (dancestudiolaw26_RepeatsValid.l0 k x3 x5 x7 x8 (wrap64 (x9 + 1)) x901000 x901001 x901002)
end
def dancestudiolaw26_RepeatsValid.f (k : Nat) (l0_0 : List (S29)) (a0_1 : Int) (l0_2 : List (S61)) : Option (Bool) := (dancestudiolaw26_great.f l0_0 a0_1 l0_2).bind fun t901 => (if t901 = true then ((dancestudiolaw26_awake.f k).bind fun t902 => (some t902)) else ((repeats_Perform.f l0_0 a0_1 l0_2).bind fun bt903 => ((repeats_Length.f l0_0 a0_1 l0_2).bind fun bt907 => (if bt903.2 = 0 then (if bt907.2 = 0 then ((staff_Check.f bt903.1 bt907.1).bind fun t909 => (if t909 = 0 then (if (l0_2.length : Int) > 16 then (none) else (dancestudiolaw26_RepeatsValid.l0 k bt903.1 bt907.1 a0_1 (l0_0.length : Int) 0 l0_0 a0_1 l0_2)) else (none))) else (if bt903.2 = bt907.2 then ((repeats_Check.f l0_0 a0_1 l0_2).bind fun t916 => (if bt903.2 = t916 then ((dancestudiolaw26_awake.f k).bind fun t917 => (some t917)) else (none))) else (none))) else (if bt903.2 = bt907.2 then ((repeats_Check.f l0_0 a0_1 l0_2).bind fun t918 => (if bt903.2 = t918 then ((dancestudiolaw26_awake.f k).bind fun t919 => (some t919)) else (none))) else (none))))))
theorem dancestudiolaw26_RepeatsValid.mono_l : ∀ k, (∀ y0 y1 y2 y3 y4 y5 y6 y7, LeO (dancestudiolaw26_RepeatsValid.l0 k y0 y1 y2 y3 y4 y5 y6 y7) (dancestudiolaw26_RepeatsValid.l0 (k + 1) y0 y1 y2 y3 y4 y5 y6 y7)) ∧ (∀ y0 y1 y2 y3 y4 y5 y6 y7 y8 y9 y10 y11, LeO (dancestudiolaw26_RepeatsValid.l1 k y0 y1 y2 y3 y4 y5 y6 y7 y8 y9 y10 y11) (dancestudiolaw26_RepeatsValid.l1 (k + 1) y0 y1 y2 y3 y4 y5 y6 y7 y8 y9 y10 y11))
 | 0 => ⟨fun _ _ _ _ _ _ _ _ r h => by simp [dancestudiolaw26_RepeatsValid.l0] at h, fun _ _ _ _ _ _ _ _ _ _ _ _ r h => by simp [dancestudiolaw26_RepeatsValid.l1] at h⟩
 | k + 1 => by
  obtain ⟨ih0, ih1⟩ := dancestudiolaw26_RepeatsValid.mono_l k
  refine ⟨?_, ?_⟩
  ·intro y0 y1 y2 y3 y4 y5 y6 y7
   unfold dancestudiolaw26_RepeatsValid.l0
   repeat' first
   | (with_reducible exact ih0 _ _ _ _ _ _ _ _)
   | (with_reducible exact ih1 _ _ _ _ _ _ _ _ _ _ _ _)
   | (with_reducible exact dancestudiolaw26_awake.mono _)
   | (with_reducible exact LeO.refl _)
   | (with_reducible exact LeO.none _)
   | (with_reducible refine LeO.ite ?_ ?_)
   | (with_reducible refine LeO.bind ?_ (fun _ => ?_))
   | exact ih0 _ _ _ _ _ _ _ _
   | exact ih1 _ _ _ _ _ _ _ _ _ _ _ _
   | exact dancestudiolaw26_awake.mono _
   | exact LeO.none _
   | refine LeO.ite ?_ ?_
   | refine LeO.bind ?_ (fun _ => ?_)
  ·intro y0 y1 y2 y3 y4 y5 y6 y7 y8 y9 y10 y11
   unfold dancestudiolaw26_RepeatsValid.l1
   repeat' first
   | (with_reducible exact ih0 _ _ _ _ _ _ _ _)
   | (with_reducible exact ih1 _ _ _ _ _ _ _ _ _ _ _ _)
   | (with_reducible exact dancestudiolaw26_awake.mono _)
   | (with_reducible exact LeO.refl _)
   | (with_reducible exact LeO.none _)
   | (with_reducible refine LeO.ite ?_ ?_)
   | (with_reducible refine LeO.bind ?_ (fun _ => ?_))
   | exact ih0 _ _ _ _ _ _ _ _
   | exact ih1 _ _ _ _ _ _ _ _ _ _ _ _
   | exact dancestudiolaw26_awake.mono _
   | exact LeO.none _
   | refine LeO.ite ?_ ?_
   | refine LeO.bind ?_ (fun _ => ?_)
theorem dancestudiolaw26_RepeatsValid.mono : ∀ a0 a1 a2 k, LeO (dancestudiolaw26_RepeatsValid.f k a0 a1 a2) (dancestudiolaw26_RepeatsValid.f (k + 1) a0 a1 a2) := by
 intro a0 a1 a2 k
 obtain ⟨ih0, ih1⟩ := dancestudiolaw26_RepeatsValid.mono_l k
 unfold dancestudiolaw26_RepeatsValid.f
 repeat' first
   | (with_reducible exact ih0 _ _ _ _ _ _ _ _)
   | (with_reducible exact ih1 _ _ _ _ _ _ _ _ _ _ _ _)
   | (with_reducible exact dancestudiolaw26_awake.mono _)
   | (with_reducible exact LeO.refl _)
   | (with_reducible exact LeO.none _)
   | (with_reducible refine LeO.ite ?_ ?_)
   | (with_reducible refine LeO.bind ?_ (fun _ => ?_))
   | exact ih0 _ _ _ _ _ _ _ _
   | exact ih1 _ _ _ _ _ _ _ _ _ _ _ _
   | exact dancestudiolaw26_awake.mono _
   | exact LeO.none _
   | refine LeO.ite ?_ ?_
   | refine LeO.bind ?_ (fun _ => ?_)
def dancestudiolaw26_RepeatsValid.T13 : Bool × List (List Nat × List Nat) := (true, [([], []), ([0], [0]), ([], []), ([1, 2], [1, 2]), ([3], [3]), ([4], [4]), ([], []), ([6], [6]), ([], []), ([7, 8], [7, 8]), ([9], [9]), ([10], [10]), ([11], [11]), ([], []), ([13, 5, 0, 1, 2, 3, 4, 5, 13], [5, 13]), ([12, 14, 0, 1, 2, 3, 4, 5, 6, 7, 8, 9, 10, 11, 12, 13, 14], [12])])
def dancestudiolaw26_RepeatsValid.B13 : List Nat := [0, 1, 0, 7, 15, 31, 0, 64, 0, 448, 960, 1984, 4032, 0, 8255, 32767]
theorem dancestudiolaw26_RepeatsValid.tab13 : rtab .any (opsOf Try.f15 13) = dancestudiolaw26_RepeatsValid.T13 := by kernel_rfl
theorem dancestudiolaw26_RepeatsValid.bits13 : waitsOk dancestudiolaw26_RepeatsValid.T13.2 dancestudiolaw26_RepeatsValid.B13 = true := by kernel_rfl
def dancestudiolaw26_RepeatsValid.T20 : Bool × List (List Nat × List Nat) := (true, [([], []), ([0], [0]), ([], []), ([1, 2], [1, 2]), ([3], [3]), ([4], [4]), ([], []), ([6], [6]), ([5, 7], [5, 7]), ([8], [8]), ([9], [9]), ([10, 9], [9, 10]), ([9], [9]), ([11, 12, 9], [9, 11, 12]), ([13, 9], [9, 13]), ([14, 9], [9, 14]), ([9], [9]), ([16, 9], [9, 16]), ([15, 17, 9], [9, 15, 17]), ([9, 18], [9, 18])])
def dancestudiolaw26_RepeatsValid.B20 : List Nat := [0, 1, 0, 7, 15, 31, 0, 64, 255, 511, 1023, 2047, 1023, 8191, 16383, 32767, 1023, 66559, 262143, 524287]
theorem dancestudiolaw26_RepeatsValid.tab20 : rtab .any (opsOf Try.f15 20) = dancestudiolaw26_RepeatsValid.T20 := by kernel_rfl
theorem dancestudiolaw26_RepeatsValid.bits20 : waitsOk dancestudiolaw26_RepeatsValid.T20.2 dancestudiolaw26_RepeatsValid.B20 = true := by kernel_rfl
set_option maxHeartbeats 8000000 in
set_option maxRecDepth 100000 in
theorem dancestudiolaw26_RepeatsValid.calls (k : Nat) (A0_0 : Option Addr) (c0_0 : Nat) (l0_0 : List (S29)) (a0_1 : Int) (A0_2 : Option Addr) (c0_2 : Nat) (l0_2 : List (S61)) (r : Bool) (w : World) (hr0_0 : Kd.C k29 w A0_0 l0_0.length l0_0) (hc0_0 : l0_0.length ≤ c0_0) (hr0_2 : Kd.C k61 w A0_2 l0_2.length l0_2) (hc0_2 : l0_2.length ≤ c0_2) (h : dancestudiolaw26_RepeatsValid.f k l0_0 a0_1 l0_2 = some r) :
  Calls Try.prog 15 #[.agg #[.slice A0_0 l0_0.length c0_0, .int .i64 a0_1, .slice A0_2 l0_2.length c0_2]] w fun e w' => e = .returned (.bool r) ∧ Below w.heap.size w w' := by
 have hu51 := Try.underlying51
 have hu45 := Try.underlying45
 have HR0_0 := Aside0.mk hr0_0
 have HC0_0 := Aside0.mk hc0_0
 clear hr0_0 hc0_0
 have HR0_2 := Aside0.mk hr0_2
 have HC0_2 := Aside0.mk hc0_2
 clear hr0_2 hc0_2
 have HB := Aside0.mk (Below.refl w.heap.size w)
 have H : ((dancestudiolaw26_great.f l0_0 a0_1 l0_2).bind fun t901 => (if t901 = true then ((dancestudiolaw26_awake.f k).bind fun t902 => (some t902)) else ((repeats_Perform.f l0_0 a0_1 l0_2).bind fun bt903 => ((repeats_Length.f l0_0 a0_1 l0_2).bind fun bt907 => (if bt903.2 = 0 then (if bt907.2 = 0 then ((staff_Check.f bt903.1 bt907.1).bind fun t909 => (if t909 = 0 then (if (l0_2.length : Int) > 16 then (none) else (dancestudiolaw26_RepeatsValid.l0 k bt903.1 bt907.1 a0_1 (l0_0.length : Int) 0 l0_0 a0_1 l0_2)) else (none))) else (if bt903.2 = bt907.2 then ((repeats_Check.f l0_0 a0_1 l0_2).bind fun t916 => (if bt903.2 = t916 then ((dancestudiolaw26_awake.f k).bind fun t917 => (some t917)) else (none))) else (none))) else (if bt903.2 = bt907.2 then ((repeats_Check.f l0_0 a0_1 l0_2).bind fun t918 => (if bt903.2 = t918 then ((dancestudiolaw26_awake.f k).bind fun t919 => (some t919)) else (none))) else (none))))))) = some r := h
 clear h
 replace H := Option.bind_eq_some_iff.mp H
 obtain ⟨t901, A20, H⟩ := H
 try dsimp only at H
 have A2 := Aside0.mk A20
 clear A20
 by_cases c3 : t901 = true
 ·subst c3
  have H1 : ((dancestudiolaw26_awake.f k).bind fun t902 => (some t902)) = some r := by rw [if_pos rfl] at H; exact H
  clear H
  have H := H1
  clear H1
  replace H := Option.bind_eq_some_iff.mp H
  obtain ⟨t902, A40, H⟩ := H
  replace H : (some t902) = some r := H
  have A4 := Aside0.mk A40
  clear A40
  obtain rfl := Option.some.inj H
  go_enter Try.func15, Try.ntmps15
  go_wp2_with (first | ((with_reducible refine gate_dst (N := 1) rfl ?_); (try (refine gate_guard (by rfl) ?_; dsimp only)); refine box_event ?hg (N := 1) ?hd (cs := #[.slice A0_0 l0_0.length c0_0, .int .i64 a0_1, .slice A0_2 l0_2.length c0_2]) (t := 51) ?hr ?_; (case hd => rfl); (case hg => rfl); (case hr => first | (go_simp; done) | (go_simp; rfl)); intro gb900 hg w5 hbox hb; have n0_ := Aside0.mk (below_step (hU HB.out) hb); have n1_ := Aside0.mk (hbox); have n2_ := Aside0.mk ((by rw [hg]; exact (below_size (hU HB.out)) : w.heap.size ≤ gb900)); have n3_ := Aside0.mk ((by rw [hg]; exact (below_size (hU HB.out)) : w.heap.size ≤ gb900)); clear HB; have HB := n0_; have BK900 := n1_; have GW900 := n2_; have GE900 := n3_; clear n0_ n1_ n2_ n3_; clear hb hbox hg; have hcz6_0 := blk_cell BK900.out; have hfz6_0 := blk_frozen BK900.out) | ((with_reducible refine gate_callee (f := 36) rfl ?_); refine goesL_ (some 14) rfl rfl Try.func36 (by kernel_rfl) rfl #[.agg #[.slice A0_0 l0_0.length c0_0, .int .i64 a0_1, .slice A0_2 l0_2.length c0_2]] rfl (by (try simp only [List.map_toArray, List.map_cons, List.map_nil]); first | done | rfl | (simp only [List.length_drop, List.length_take]; rfl)) ?_; (with_reducible refine (dancestudiolaw26_great.calls _ _ l0_0 a0_1 _ _ l0_2 true _ ?side1 ?side2 ?side3 ?side4 A2.out).mono ?_); (case side1 => repeat (first | exact (Kd.C_below HR0_0.out HB.out) | (with_reducible refine Kd.C_alloc ?_ _) | (with_reducible refine Kd.C_drewN ?_ _) | (with_reducible refine Kd.C_drew ?_))); (case side2 => exact HC0_0.out); (case side3 => repeat (first | exact (Kd.C_below HR0_2.out HB.out) | (with_reducible refine Kd.C_alloc ?_ _) | (with_reducible refine Kd.C_drewN ?_ _) | (with_reducible refine Kd.C_drew ?_))); (case side4 => exact HC0_2.out); rintro e w7 ⟨rfl, hb⟩; refine ⟨_, rfl, ?_⟩; have n0_ := Aside0.mk (blk_below (bU BK900.out) hb); have n1_ := Aside0.mk (below_step (hU HB.out) hb); clear BK900; clear HB; have BK900 := n0_; have HB := n1_; clear n0_ n1_; (try clear hb); (try clear hb2); (try clear hk); (try clear hi)) | ((with_reducible refine gate_callee (f := 37) rfl ?_); refine goesL_ (some 15) rfl rfl Try.func37 (by kernel_rfl) rfl #[] rfl (by (try simp only [List.map_toArray, List.map_cons, List.map_nil]); first | done | rfl | (simp only [List.length_drop, List.length_take]; rfl)) ?_; (with_reducible refine (dancestudiolaw26_awake.calls k  t902 _ A4.out).mono ?_); rintro e w8 ⟨rfl, hb⟩; refine ⟨_, rfl, ?_⟩; have n0_ := Aside0.mk (blk_below (bU BK900.out) hb); have n1_ := Aside0.mk (below_step (hU HB.out) hb); clear BK900; clear HB; have BK900 := n0_; have HB := n1_; clear n0_ n1_; (try clear hb); (try clear hb2); (try clear hk); (try clear hi)))
  go_ret
  exact ⟨by first | rfl | (simp [errW_none, errW_some] <;> rfl) | (simp [*, errW_none, errW_some] <;> rfl), hU HB.out⟩
 ·replace c3 := Bool.eq_false_iff.mpr c3
  subst c3
  rw [if_neg (show ¬ (false = true) by decide)] at H
  replace H := Option.bind_eq_some_iff.mp H
  obtain ⟨⟨t903, t904⟩, A90, H⟩ := H
  try dsimp only at H
  have A9 := Aside0.mk A90
  clear A90
  replace H := Option.bind_eq_some_iff.mp H
  obtain ⟨⟨t907, t908⟩, A100, H⟩ := H
  try dsimp only at H
  have A10 := Aside0.mk A100
  clear A100
  by_cases c11 : t904 = 0
  ·rw [if_pos c11] at H
   have c11b0 : (t904 == 0) = true := beq_iff_eq.mpr c11
   have c11b1 : (t904 != 0) = false := bne_eq_false_iff_eq.mpr c11
   clear c11
   by_cases c12 : t908 = 0
   ·rw [if_pos c12] at H
    have c12b0 : (t908 == 0) = true := beq_iff_eq.mpr c12
    have c12b1 : (t908 != 0) = false := bne_eq_false_iff_eq.mpr c12
    clear c12
    replace H := Option.bind_eq_some_iff.mp H
    obtain ⟨t909, A130, H⟩ := H
    try dsimp only at H
    have A13 := Aside0.mk A130
    clear A130
    by_cases c14 : t909 = 0
    ·rw [if_pos c14] at H
     have c14b0 : (t909 == 0) = true := beq_iff_eq.mpr c14
     have c14b1 : (t909 != 0) = false := bne_eq_false_iff_eq.mpr c14
     clear c14
     by_cases c15 : (l0_2.length : Int) > 16
     ·rw [if_pos c15] at H
      exact absurd H (by simp)
     ·rw [if_neg c15] at H
      have c15b0 : decide (16 < (l0_2.length : Int)) = false := decide_eq_false c15
      have c15b1 : decide (16 < l0_2.length) = false := decide_eq_false (by omega)
      clear c15
      have H' := Aside0.mk H
      clear H
      go_enter Try.func15, Try.ntmps15
      try go_wp2_with (first | ((with_reducible refine gate_dst (N := 1) rfl ?_); (try (refine gate_guard (by rfl) ?_; dsimp only)); refine box_event ?hg (N := 1) ?hd (cs := #[.slice A0_0 l0_0.length c0_0, .int .i64 a0_1, .slice A0_2 l0_2.length c0_2]) (t := 51) ?hr ?_; (case hd => rfl); (case hg => rfl); (case hr => first | (go_simp; done) | (go_simp; rfl)); intro gb900 hg w16 hbox hb; have n0_ := Aside0.mk (below_step (hU HB.out) hb); have n1_ := Aside0.mk (hbox); have n2_ := Aside0.mk ((by rw [hg]; exact (below_size (hU HB.out)) : w.heap.size ≤ gb900)); have n3_ := Aside0.mk ((by rw [hg]; exact (below_size (hU HB.out)) : w.heap.size ≤ gb900)); clear HB; have HB := n0_; have BK900 := n1_; have GW900 := n2_; have GE900 := n3_; clear n0_ n1_ n2_ n3_; clear hb hbox hg; have hcz17_0 := blk_cell BK900.out; have hfz17_0 := blk_frozen BK900.out) | ((with_reducible refine gate_callee (f := 36) rfl ?_); refine goesL_ (some 14) rfl rfl Try.func36 (by kernel_rfl) rfl #[.agg #[.slice A0_0 l0_0.length c0_0, .int .i64 a0_1, .slice A0_2 l0_2.length c0_2]] rfl (by (try simp only [List.map_toArray, List.map_cons, List.map_nil]); first | done | rfl | (simp only [List.length_drop, List.length_take]; rfl)) ?_; (with_reducible refine (dancestudiolaw26_great.calls _ _ l0_0 a0_1 _ _ l0_2 false _ ?side1 ?side2 ?side3 ?side4 A2.out).mono ?_); (case side1 => repeat (first | exact (Kd.C_below HR0_0.out HB.out) | (with_reducible refine Kd.C_alloc ?_ _) | (with_reducible refine Kd.C_drewN ?_ _) | (with_reducible refine Kd.C_drew ?_))); (case side2 => exact HC0_0.out); (case side3 => repeat (first | exact (Kd.C_below HR0_2.out HB.out) | (with_reducible refine Kd.C_alloc ?_ _) | (with_reducible refine Kd.C_drewN ?_ _) | (with_reducible refine Kd.C_drew ?_))); (case side4 => exact HC0_2.out); rintro e w18 ⟨rfl, hb⟩; refine ⟨_, rfl, ?_⟩; have n0_ := Aside0.mk (blk_below (bU BK900.out) hb); have n1_ := Aside0.mk (below_step (hU HB.out) hb); clear BK900; clear HB; have BK900 := n0_; have HB := n1_; clear n0_ n1_; (try clear hb); (try clear hb2); (try clear hk); (try clear hi); have hcz19_0 := blk_cell BK900.out; have hfz19_0 := blk_frozen BK900.out) | ((with_reducible refine gate_callee (f := 42) rfl ?_); refine goesL_ (some 23) rfl rfl Try.func42 (by kernel_rfl) rfl #[.slice A0_0 l0_0.length c0_0, .int .i64 a0_1, .slice A0_2 l0_2.length c0_2] rfl (by (try simp only [List.map_toArray, List.map_cons, List.map_nil]); first | done | rfl | (simp only [List.length_drop, List.length_take]; rfl)) ?_; (with_reducible refine (repeats_Perform.calls _ _ l0_0 a0_1 _ _ l0_2 t903 t904 _ ?side1 ?side2 ?side3 ?side4 A9.out).mono ?_); (case side1 => repeat (first | exact (Kd.C_below HR0_0.out HB.out) | (with_reducible refine Kd.C_alloc ?_ _) | (with_reducible refine Kd.C_drewN ?_ _) | (with_reducible refine Kd.C_drew ?_))); (case side2 => exact HC0_0.out); (case side3 => repeat (first | exact (Kd.C_below HR0_2.out HB.out) | (with_reducible refine Kd.C_alloc ?_ _) | (with_reducible refine Kd.C_drewN ?_ _) | (with_reducible refine Kd.C_drew ?_))); (case side4 => exact HC0_2.out); rintro e w20 ⟨v905, rfl, ho0, hb⟩; refine ⟨_, rfl, ?_⟩; have n0_ := Aside0.mk (Kd.R_lower ho0 (below_size (hU HB.out))); have n1_ := Aside0.mk (blk_below (bU BK900.out) hb); have n2_ := Aside0.mk (below_step (hU HB.out) hb); clear BK900; clear HB; have HO906 := n0_; have BK900 := n1_; have HB := n2_; clear n0_ n1_ n2_; (try clear hb); (try clear hb2); (try clear hk); (try clear hi); (try clear ho0); have hcz21_0 := blk_cell BK900.out; have hfz21_0 := blk_frozen BK900.out) | ((with_reducible refine gate_callee (f := 38) rfl ?_); refine goesL_ (some 33) rfl rfl Try.func38 (by kernel_rfl) rfl #[.slice A0_0 l0_0.length c0_0, .int .i64 a0_1, .slice A0_2 l0_2.length c0_2] rfl (by (try simp only [List.map_toArray, List.map_cons, List.map_nil]); first | done | rfl | (simp only [List.length_drop, List.length_take]; rfl)) ?_; (with_reducible refine (repeats_Length.calls _ _ l0_0 a0_1 _ _ l0_2 t907 t908 _ ?side1 ?side2 ?side3 ?side4 A10.out).mono ?_); (case side1 => repeat (first | exact (Kd.C_below HR0_0.out HB.out) | (with_reducible refine Kd.C_alloc ?_ _) | (with_reducible refine Kd.C_drewN ?_ _) | (with_reducible refine Kd.C_drew ?_))); (case side2 => exact HC0_0.out); (case side3 => repeat (first | exact (Kd.C_below HR0_2.out HB.out) | (with_reducible refine Kd.C_alloc ?_ _) | (with_reducible refine Kd.C_drewN ?_ _) | (with_reducible refine Kd.C_drew ?_))); (case side4 => exact HC0_2.out); rintro e w22 ⟨rfl, hb⟩; refine ⟨_, rfl, ?_⟩; have n0_ := Aside0.mk (Kd.R_below (Kd.rU HO906.out) hb); have n1_ := Aside0.mk (blk_below (bU BK900.out) hb); have n2_ := Aside0.mk (below_step (hU HB.out) hb); clear HO906; clear BK900; clear HB; have HO906 := n0_; have BK900 := n1_; have HB := n2_; clear n0_ n1_ n2_; (try clear hb); (try clear hb2); (try clear hk); (try clear hi); obtain ⟨Ao23, co23, eo23⟩ := Kd.R_slice HO906.out; subst eo23) | ((with_reducible refine gate_callee (f := 20) rfl ?_); refine goesL_ (some 61) rfl rfl Try.func20 (by kernel_rfl) rfl #[.slice Ao23 t903.length co23, .int .i64 t907] rfl (by (try simp only [List.map_toArray, List.map_cons, List.map_nil]); first | done | rfl | (simp only [List.length_drop, List.length_take]; rfl)) ?_; (with_reducible refine (staff_Check.calls _ _ t903 t907 t909 _ ?side1 ?side2 A13.out).mono ?_); (case side1 => repeat (first | exact (Kd.R_reads' HO906.out).2.2 | (with_reducible refine Kd.C_alloc ?_ _) | (with_reducible refine Kd.C_drewN ?_ _) | (with_reducible refine Kd.C_drew ?_))); (case side2 => exact (Kd.R_reads' HO906.out).2.1); rintro e w24 ⟨rfl, hb⟩; refine ⟨_, rfl, ?_⟩; have n0_ := Aside0.mk (Kd.R_below (Kd.rU HO906.out) hb); have n1_ := Aside0.mk (blk_below (bU BK900.out) hb); have n2_ := Aside0.mk (below_step (hU HB.out) hb); clear HO906; clear BK900; clear HB; have HO906 := n0_; have BK900 := n1_; have HB := n2_; clear n0_ n1_ n2_; (try clear hb); (try clear hb2); (try clear hk); (try clear hi); have hcz25_0 := blk_cell BK900.out; have hfz25_0 := blk_frozen BK900.out))
      have n0_ := Aside0.mk (Kd.R_drew HO906.out)
      have n1_ := Aside0.mk (blk_drew BK900.out)
      have n2_ := Aside0.mk (below_drew1 HB.out)
      clear HO906
      clear BK900
      clear HB
      have HO906 := n0_
      have BK900 := n1_
      have HB := n2_
      clear n0_ n1_ n2_
      refine start_ (n := 7) (S := fun w' => w'.cell? ⟨gb900, 0, none⟩ = some (.slice A0_0 l0_0.length c0_0) ∧ w'.cell? ⟨gb900, 1, none⟩ = some (.int .i64 a0_1) ∧ w'.cell? ⟨gb900, 2, none⟩ = some (.slice A0_2 l0_2.length c0_2)) (ds := []) #[false, false, false, false, false, false, false] (by kernel_rfl) rfl rfl ⟨(blk_cell BK900.out 0).trans rfl, (blk_cell BK900.out 1).trans rfl, (blk_cell BK900.out 2).trans rfl⟩ (fun hHeld => ?_)
      generalize w24.drew = w26 at HO906 BK900 HB hHeld ⊢
      refine puA 0 69 (bs 7 1) ?_
      refine puA 2 71 (bs 7 5) ?_
      refine tkA 1 70 (bs 7 7) hHeld ?_
      refine puA 5 7 (bs 7 39) ?_
      refine tkA 3 72 (bs 7 47) hHeld ?_
      refine puA 4 73 (bs 7 63) ?_
      refine puA 6 8 (bs 7 127) ?_
      refine done_ (by kernel_rfl) ?_
      try go_wp2
      go_loopg [7, 8, 9] k (fun kq v7 v8 v9 w' => ∃ (x7_1 : Int) (x8_1 : Int) (x9_1 : Int), v7 = .int .i64 x7_1 ∧ v8 = .int .i64 x8_1 ∧ v9 = .int .i64 x9_1 ∧ Aside0 (dancestudiolaw26_RepeatsValid.l0 kq t903 t907 x7_1 x8_1 x9_1 l0_0 a0_1 l0_2 = some r) ∧ Aside0 (kq ≤ k) ∧ Aside0 (Kd.R k29 29 w' w.heap.size (fun _ => True) (.slice Ao23 t903.length co23) t903) ∧ Aside0 (w'.heap[gb900]? = some (.cells #[(.slice A0_0 l0_0.length c0_0), .int .i64 a0_1, (.slice A0_2 l0_2.length c0_2)] 51 (0, 0))) ∧ Aside0 (Below w.heap.size w w'))
      case atStart => exact ⟨(a0_1), ((l0_0.length : Int)), (0), (by first | rfl | (simp; done) | (simp [*]; done)), (by first | rfl | (simp; done) | (simp [*]; done)), (by first | rfl | (simp; done) | (simp [*]; done)), H', ⟨Nat.le_refl _⟩, ⟨by (with_reducible repeat (first | apply Kd.R_alloc | apply Kd.R_drewN | apply Kd.R_drew)); exact HO906.out⟩, ⟨by (with_reducible repeat (first | refine blk_drewN ?_ _ | refine blk_drew ?_ | refine blk_alloc ?_ _)); exact BK900.out⟩, ⟨hU HB.out⟩⟩
      case round =>
       clear H'
       try clear c1
       try clear c2
       try clear p2
       try clear c3
       try clear c4
       try clear c11
       try clear c11b0
       try clear c11b1
       try clear c12
       try clear c12b0
       try clear c12b1
       try clear c14
       try clear c14b0
       try clear c14b1
       try clear c15
       try clear c15b0
       try clear c15b1
       try clear c20
       try clear hcz17_0
       try clear hcz17_1
       try clear hcz17_2
       try clear hcz19_0
       try clear hcz19_1
       try clear hcz19_2
       try clear hcz21_0
       try clear hcz21_1
       try clear hcz21_2
       try clear hcz25_0
       try clear hcz25_1
       try clear hcz25_2
       try clear hcz6_0
       try clear hcz6_1
       try clear hcz6_2
       try clear hfz17_0
       try clear hfz17_1
       try clear hfz17_2
       try clear hfz19_0
       try clear hfz19_1
       try clear hfz19_2
       try clear hfz21_0
       try clear hfz21_1
       try clear hfz21_2
       try clear hfz25_0
       try clear hfz25_1
       try clear hfz25_2
       try clear hfz6_0
       try clear hfz6_1
       try clear hfz6_2
       obtain ⟨x7_1, x8_1, x9_1, rfl, rfl, rfl, HA, HK1, HO_3, BK900, HB⟩ := hrel
       cases gk with
       | zero => exact absurd HA.out (by simp [dancestudiolaw26_RepeatsValid.l0])
       | succ k1 =>
        have H := HA.out
        clear HA
        simp only [dancestudiolaw26_RepeatsValid.l0] at H
        by_cases c27 : x9_1 < (l0_2.length : Int)
        ·rw [if_pos c27] at H
         have c27b0 : decide (x9_1 < (l0_2.length : Int)) = true := decide_eq_true c27
         clear c27
         by_cases c28 : 0 ≤ x9_1
         ·rw [if_pos c28] at H
          have c28b0 : decide (0 ≤ x9_1) = true := decide_eq_true c28
          clear c28
          by_cases c29 : ((rd_T61 l0_2 x9_1).f0.f0) < 0
          ·rw [if_pos c29] at H
           exact absurd H (by simp)
          ·rw [if_neg c29] at H
           have c29b0 : decide (((rd_T61 l0_2 x9_1).f0.f0) < 0) = false := decide_eq_false c29
           clear c29
           by_cases c30 : ((rd_T61 l0_2 x9_1).f0.f1) > 8192
           ·rw [if_pos c30] at H
            exact absurd H (by simp)
           ·rw [if_neg c30] at H
            have c30b0 : decide (8192 < ((rd_T61 l0_2 x9_1).f0.f1)) = false := decide_eq_false c30
            clear c30
            by_cases c31 : ((rd_T61 l0_2 x9_1).f0.f0) ≥ ((rd_T61 l0_2 x9_1).f0.f1)
            ·rw [if_pos c31] at H
             exact absurd H (by simp)
            ·rw [if_neg c31] at H
             have c31b0 : decide (((rd_T61 l0_2 x9_1).f0.f1) ≤ ((rd_T61 l0_2 x9_1).f0.f0)) = false := decide_eq_false c31
             clear c31
             by_cases c32 : (wrap64 (((rd_T61 l0_2 x9_1).f1) - 1)) < 1
             ·rw [if_pos c32] at H
              exact absurd H (by simp)
             ·rw [if_neg c32] at H
              have c32b0 : decide ((wrap64 (((rd_T61 l0_2 x9_1).f1) - 1)) < 1) = false := decide_eq_false c32
              clear c32
              by_cases c33 : (wrap64 (((rd_T61 l0_2 x9_1).f1) - 1)) > 15
              ·rw [if_pos c33] at H
               exact absurd H (by simp)
              ·rw [if_neg c33] at H
               have c33b0 : decide (15 < (wrap64 (((rd_T61 l0_2 x9_1).f1) - 1))) = false := decide_eq_false c33
               clear c33
               have H' := Aside0.mk H
               clear H
               have hcz34_0 := blk_cell BK900.out
               have hfz34_0 := blk_frozen BK900.out
               try go_wp2
               have n0_ := Aside0.mk (Kd.R_drew HO_3.out)
               have n1_ := Aside0.mk (blk_drew BK900.out)
               have n2_ := Aside0.mk (below_drew1 HB.out)
               clear HO_3
               clear BK900
               clear HB
               have HO_3 := n0_
               have BK900 := n1_
               have HB := n2_
               clear n0_ n1_ n2_
               have p910 : 0 ≤ (x9_1 : Int) := of_decide_eq_true (by first | (with_reducible assumption) | assumption)
               have q910 : x9_1 < (l0_2.length : Int) := of_decide_eq_true (by first | (with_reducible assumption) | assumption)
               obtain ⟨ad910, e910, hx910_0, hx910_1, hx910_2⟩ := at_T61 HR0_2.out x9_1 p910 q910
               have hw910_2 := hx910_2
               have hw910_1 := hx910_1
               have hw910_0 := hx910_0
               cases e910
               replace hx910_0 := hbC HB hx910_0
               replace hx910_1 := hbC HB hx910_1
               replace hx910_2 := hbC HB hx910_2
               replace p910 := eq_true p910
               replace q910 := eq_true q910
               have p911 : 0 ≤ (x9_1 : Int) := of_decide_eq_true (by first | (with_reducible assumption) | assumption)
               have q911 : x9_1 < (l0_2.length : Int) := of_decide_eq_true (by first | (with_reducible assumption) | assumption)
               obtain ⟨ad911, e911, hx911_0, hx911_1, hx911_2⟩ := at_T61 HR0_2.out x9_1 p911 q911
               have hw911_2 := hx911_2
               have hw911_1 := hx911_1
               have hw911_0 := hx911_0
               obtain rfl : ad910 = ad911 := (by injection e911)
               replace hx911_0 := hbC HB hx911_0
               replace hx911_1 := hbC HB hx911_1
               replace hx911_2 := hbC HB hx911_2
               replace p911 := eq_true p911
               replace q911 := eq_true q911
               refine start_ (n := 16) (S := fun w' => w'.cell? ⟨gb900, 0, none⟩ = some (.slice A0_0 l0_0.length c0_0) ∧ w'.cell? ⟨gb900, 1, none⟩ = some (.int .i64 a0_1) ∧ w'.cell? ⟨gb900, 2, none⟩ = some (.slice (some ad910) l0_2.length c0_2) ∧ w'.cell? (ad910.add ((x9_1).toNat * 3)) = some (.int .i64 ((rd_T61 l0_2 x9_1).f0.f0)) ∧ w'.cell? ⟨(ad910.add ((x9_1).toNat * 3)).block, (ad910.add ((x9_1).toNat * 3)).off + 1, none⟩ = some (.int .i64 ((rd_T61 l0_2 x9_1).f0.f1)) ∧ w'.cell? ⟨(ad910.add ((x9_1).toNat * 3)).block, (ad910.add ((x9_1).toNat * 3)).off + 2, none⟩ = some (.int .i64 ((rd_T61 l0_2 x9_1).f1)) ∧ w'.cell? (ad910.add ((x9_1).toNat * 3)) = some (.int .i64 ((rd_T61 l0_2 x9_1).f0.f0)) ∧ w'.cell? ⟨(ad910.add ((x9_1).toNat * 3)).block, (ad910.add ((x9_1).toNat * 3)).off + 1, none⟩ = some (.int .i64 ((rd_T61 l0_2 x9_1).f0.f1)) ∧ w'.cell? ⟨(ad910.add ((x9_1).toNat * 3)).block, (ad910.add ((x9_1).toNat * 3)).off + 2, none⟩ = some (.int .i64 ((rd_T61 l0_2 x9_1).f1))) (ds := []) #[false, false, false, false, false, false, false, false, false, false, false, false, false, false, false, false] (by kernel_rfl) rfl rfl ⟨(blk_cell BK900.out 0).trans rfl, (blk_cell BK900.out 1).trans rfl, (blk_cell BK900.out 2).trans rfl, (hbC HB hw910_0), (hbC HB hw910_1), (hbC HB hw910_2), (hbC HB hw911_0), (hbC HB hw911_1), (hbC HB hw911_2)⟩ (fun hHeld => ?_); refine with_tabW dancestudiolaw26_RepeatsValid.tab13 dancestudiolaw26_RepeatsValid.bits13 (fun HT_ HW_ => ?_)
               generalize wr.drew = w35 at HO_3 BK900 HB hx910_0 hx910_1 hx910_2 hx911_0 hx911_1 hx911_2 hHeld ⊢
               refine puA 0 81 (bs 16 1) ?_
               refine puA 2 83 (bs 16 5) ?_
               refine puA 6 87 (bs 16 69) ?_
               refine puA 8 89 (bs 16 325) ?_
               refine tkA 1 82 (bs 16 327) hHeld ?_
               refine puA 3 84 (bs 16 335) ?_
               refine puA 4 85 (bs 16 351) ?_
               refine tkA 5 86 (bs 16 383) hHeld ?_
               refine tkA 7 88 (bs 16 511) hHeld ?_
               refine puA 9 90 (bs 16 1023) ?_
               refine puA 10 91 (bs 16 2047) ?_
               refine tkA 11 92 (bs 16 4095) hHeld ?_
               refine puA 12 93 (bs 16 8191) ?_
               refine one_ (i := 13) (N := some 10) (bs 16 16383) rfl rfl (one_of HT_.out (by kernel_rfl)) (by decide) (fun K hK => ?_)
               refine box_step ?hg (N := 10) ?hd (cs := #[.int .i64 0, .int .i64 0]) (t := 45) ?hr ?_; (case hd => rfl); (case hg => rfl); (case hr => first | (go_simp; done) | (go_simp; rfl))
               intro gb912 hg w36 hbox hb
               have n0_ := Aside0.mk (Kd.R_below (Kd.rU HO_3.out) hb)
               have n1_ := Aside0.mk (blk_below (bU BK900.out) hb)
               have n2_ := Aside0.mk (below_step (hU HB.out) hb)
               have n3_ := Aside0.mk (hbox)
               have n4_ := Aside0.mk ((by rw [hg]; exact (below_size (hU HB.out)) : w.heap.size ≤ gb912))
               have n5_ := Aside0.mk ((by rw [hg]; exact (below_size (hU HB.out)) : w.heap.size ≤ gb912))
               have n6_ := Aside0.mk ((by rw [hg]; exact Nat.ne_of_lt (blk_lt (bU BK900.out)) : gb900 ≠ gb912))
               have n7_ := Aside0.mk ((by rw [hg]; exact Nat.ne_of_gt (blk_lt (bU BK900.out)) : gb912 ≠ gb900))
               clear HO_3
               clear BK900
               clear HB
               have HO_3 := n0_
               have BK900 := n1_
               have HB := n2_
               have BK912 := n3_
               have GW912 := n4_
               have GE912 := n5_
               have NB900_912 := n6_
               have NB912_900 := n7_
               clear n0_ n1_ n2_ n3_ n4_ n5_ n6_ n7_
               clear hb hbox hg
               refine hK.out _ _ ⟨(blk_cell BK900.out 0).trans rfl, (blk_cell BK900.out 1).trans rfl, (blk_cell BK900.out 2).trans rfl, (hbC HB hw910_0), (hbC HB hw910_1), (hbC HB hw910_2), (hbC HB hw911_0), (hbC HB hw911_1), (hbC HB hw911_2)⟩ (fun hHeld => ?_)
               clear hK K
               refine nmA 10 ?_
               refine one_ (i := 14) (N := none) #[true, true, true, true, true, true, true, true, true, true, true, true, true, true, true, false] rfl rfl (one_of HT_.out (by kernel_rfl)) (by decide) (fun K hK => ?_)
               have hs37 : w36.cell? ⟨gb912, 0, none⟩ = some (.int .i64 0) := (blk_cell BK912.out 0).trans rfl
               have hfs37 := blk_frozen BK912.out 0
               have hns37_0 := NB900_912.out
               have hms37_0 := NB912_900.out
               have hs38 : w36.cell? ⟨gb912, 1, none⟩ = some (.int .i64 0) := (blk_cell BK912.out 1).trans rfl
               have hfs38 := blk_frozen BK912.out 1
               have hns38_0 := NB900_912.out
               have hms38_0 := NB912_900.out
               refine skip_ (w1 := ?_) (by rfl) rfl ?_ ?_
               rotate_left
               ·go_simp
                rfl
               refine hK.out _ _ ⟨((cell_far (p := ⟨gb912, _, none⟩) NB900_912.out _).trans (((cell_far (p := ⟨gb912, _, none⟩) NB900_912.out _).trans (hHeld.1)))), ((cell_far (p := ⟨gb912, _, none⟩) NB900_912.out _).trans (((cell_far (p := ⟨gb912, _, none⟩) NB900_912.out _).trans (hHeld.2.1)))), ((cell_far (p := ⟨gb912, _, none⟩) NB900_912.out _).trans (((cell_far (p := ⟨gb912, _, none⟩) NB900_912.out _).trans (hHeld.2.2.1)))), ((cell_far (p := ⟨gb912, _, none⟩) (by first | exact Nat.ne_of_lt (Nat.lt_of_lt_of_le (by have := World.block_lt_of_cell? _ _ hw910_0; first | rwa [add_block] at this | exact this) GW912.out) | (rw [add_block]; exact Nat.ne_of_lt (Nat.lt_of_lt_of_le (by have := World.block_lt_of_cell? _ _ hw910_0; first | rwa [add_block] at this | exact this) GW912.out)) | (show (Addr.add _ _).block ≠ _; rw [add_block]; exact Nat.ne_of_lt (Nat.lt_of_lt_of_le (by have := World.block_lt_of_cell? _ _ hw910_0; first | rwa [add_block] at this | exact this) GW912.out)) | (dsimp only; exact Nat.ne_of_lt (Nat.lt_of_lt_of_le (by have := World.block_lt_of_cell? _ _ hw910_0; first | rwa [add_block] at this | exact this) GW912.out))) _).trans (((cell_far (p := ⟨gb912, _, none⟩) (by first | exact Nat.ne_of_lt (Nat.lt_of_lt_of_le (by have := World.block_lt_of_cell? _ _ hw910_0; first | rwa [add_block] at this | exact this) GW912.out) | (rw [add_block]; exact Nat.ne_of_lt (Nat.lt_of_lt_of_le (by have := World.block_lt_of_cell? _ _ hw910_0; first | rwa [add_block] at this | exact this) GW912.out)) | (show (Addr.add _ _).block ≠ _; rw [add_block]; exact Nat.ne_of_lt (Nat.lt_of_lt_of_le (by have := World.block_lt_of_cell? _ _ hw910_0; first | rwa [add_block] at this | exact this) GW912.out)) | (dsimp only; exact Nat.ne_of_lt (Nat.lt_of_lt_of_le (by have := World.block_lt_of_cell? _ _ hw910_0; first | rwa [add_block] at this | exact this) GW912.out))) _).trans (hHeld.2.2.2.1)))), ((cell_far (p := ⟨gb912, _, none⟩) (by first | exact Nat.ne_of_lt (Nat.lt_of_lt_of_le (by have := World.block_lt_of_cell? _ _ hw910_1; first | rwa [add_block] at this | exact this) GW912.out) | (rw [add_block]; exact Nat.ne_of_lt (Nat.lt_of_lt_of_le (by have := World.block_lt_of_cell? _ _ hw910_1; first | rwa [add_block] at this | exact this) GW912.out)) | (show (Addr.add _ _).block ≠ _; rw [add_block]; exact Nat.ne_of_lt (Nat.lt_of_lt_of_le (by have := World.block_lt_of_cell? _ _ hw910_1; first | rwa [add_block] at this | exact this) GW912.out)) | (dsimp only; exact Nat.ne_of_lt (Nat.lt_of_lt_of_le (by have := World.block_lt_of_cell? _ _ hw910_1; first | rwa [add_block] at this | exact this) GW912.out))) _).trans (((cell_far (p := ⟨gb912, _, none⟩) (by first | exact Nat.ne_of_lt (Nat.lt_of_lt_of_le (by have := World.block_lt_of_cell? _ _ hw910_1; first | rwa [add_block] at this | exact this) GW912.out) | (rw [add_block]; exact Nat.ne_of_lt (Nat.lt_of_lt_of_le (by have := World.block_lt_of_cell? _ _ hw910_1; first | rwa [add_block] at this | exact this) GW912.out)) | (show (Addr.add _ _).block ≠ _; rw [add_block]; exact Nat.ne_of_lt (Nat.lt_of_lt_of_le (by have := World.block_lt_of_cell? _ _ hw910_1; first | rwa [add_block] at this | exact this) GW912.out)) | (dsimp only; exact Nat.ne_of_lt (Nat.lt_of_lt_of_le (by have := World.block_lt_of_cell? _ _ hw910_1; first | rwa [add_block] at this | exact this) GW912.out))) _).trans (hHeld.2.2.2.2.1)))), ((cell_far (p := ⟨gb912, _, none⟩) (by first | exact Nat.ne_of_lt (Nat.lt_of_lt_of_le (by have := World.block_lt_of_cell? _ _ hw910_2; first | rwa [add_block] at this | exact this) GW912.out) | (rw [add_block]; exact Nat.ne_of_lt (Nat.lt_of_lt_of_le (by have := World.block_lt_of_cell? _ _ hw910_2; first | rwa [add_block] at this | exact this) GW912.out)) | (show (Addr.add _ _).block ≠ _; rw [add_block]; exact Nat.ne_of_lt (Nat.lt_of_lt_of_le (by have := World.block_lt_of_cell? _ _ hw910_2; first | rwa [add_block] at this | exact this) GW912.out)) | (dsimp only; exact Nat.ne_of_lt (Nat.lt_of_lt_of_le (by have := World.block_lt_of_cell? _ _ hw910_2; first | rwa [add_block] at this | exact this) GW912.out))) _).trans (((cell_far (p := ⟨gb912, _, none⟩) (by first | exact Nat.ne_of_lt (Nat.lt_of_lt_of_le (by have := World.block_lt_of_cell? _ _ hw910_2; first | rwa [add_block] at this | exact this) GW912.out) | (rw [add_block]; exact Nat.ne_of_lt (Nat.lt_of_lt_of_le (by have := World.block_lt_of_cell? _ _ hw910_2; first | rwa [add_block] at this | exact this) GW912.out)) | (show (Addr.add _ _).block ≠ _; rw [add_block]; exact Nat.ne_of_lt (Nat.lt_of_lt_of_le (by have := World.block_lt_of_cell? _ _ hw910_2; first | rwa [add_block] at this | exact this) GW912.out)) | (dsimp only; exact Nat.ne_of_lt (Nat.lt_of_lt_of_le (by have := World.block_lt_of_cell? _ _ hw910_2; first | rwa [add_block] at this | exact this) GW912.out))) _).trans (hHeld.2.2.2.2.2.1)))), ((cell_far (p := ⟨gb912, _, none⟩) (by first | exact Nat.ne_of_lt (Nat.lt_of_lt_of_le (by have := World.block_lt_of_cell? _ _ hw911_0; first | rwa [add_block] at this | exact this) GW912.out) | (rw [add_block]; exact Nat.ne_of_lt (Nat.lt_of_lt_of_le (by have := World.block_lt_of_cell? _ _ hw911_0; first | rwa [add_block] at this | exact this) GW912.out)) | (show (Addr.add _ _).block ≠ _; rw [add_block]; exact Nat.ne_of_lt (Nat.lt_of_lt_of_le (by have := World.block_lt_of_cell? _ _ hw911_0; first | rwa [add_block] at this | exact this) GW912.out)) | (dsimp only; exact Nat.ne_of_lt (Nat.lt_of_lt_of_le (by have := World.block_lt_of_cell? _ _ hw911_0; first | rwa [add_block] at this | exact this) GW912.out))) _).trans (((cell_far (p := ⟨gb912, _, none⟩) (by first | exact Nat.ne_of_lt (Nat.lt_of_lt_of_le (by have := World.block_lt_of_cell? _ _ hw911_0; first | rwa [add_block] at this | exact this) GW912.out) | (rw [add_block]; exact Nat.ne_of_lt (Nat.lt_of_lt_of_le (by have := World.block_lt_of_cell? _ _ hw911_0; first | rwa [add_block] at this | exact this) GW912.out)) | (show (Addr.add _ _).block ≠ _; rw [add_block]; exact Nat.ne_of_lt (Nat.lt_of_lt_of_le (by have := World.block_lt_of_cell? _ _ hw911_0; first | rwa [add_block] at this | exact this) GW912.out)) | (dsimp only; exact Nat.ne_of_lt (Nat.lt_of_lt_of_le (by have := World.block_lt_of_cell? _ _ hw911_0; first | rwa [add_block] at this | exact this) GW912.out))) _).trans (hHeld.2.2.2.2.2.2.1)))), ((cell_far (p := ⟨gb912, _, none⟩) (by first | exact Nat.ne_of_lt (Nat.lt_of_lt_of_le (by have := World.block_lt_of_cell? _ _ hw911_1; first | rwa [add_block] at this | exact this) GW912.out) | (rw [add_block]; exact Nat.ne_of_lt (Nat.lt_of_lt_of_le (by have := World.block_lt_of_cell? _ _ hw911_1; first | rwa [add_block] at this | exact this) GW912.out)) | (show (Addr.add _ _).block ≠ _; rw [add_block]; exact Nat.ne_of_lt (Nat.lt_of_lt_of_le (by have := World.block_lt_of_cell? _ _ hw911_1; first | rwa [add_block] at this | exact this) GW912.out)) | (dsimp only; exact Nat.ne_of_lt (Nat.lt_of_lt_of_le (by have := World.block_lt_of_cell? _ _ hw911_1; first | rwa [add_block] at this | exact this) GW912.out))) _).trans (((cell_far (p := ⟨gb912, _, none⟩) (by first | exact Nat.ne_of_lt (Nat.lt_of_lt_of_le (by have := World.block_lt_of_cell? _ _ hw911_1; first | rwa [add_block] at this | exact this) GW912.out) | (rw [add_block]; exact Nat.ne_of_lt (Nat.lt_of_lt_of_le (by have := World.block_lt_of_cell? _ _ hw911_1; first | rwa [add_block] at this | exact this) GW912.out)) | (show (Addr.add _ _).block ≠ _; rw [add_block]; exact Nat.ne_of_lt (Nat.lt_of_lt_of_le (by have := World.block_lt_of_cell? _ _ hw911_1; first | rwa [add_block] at this | exact this) GW912.out)) | (dsimp only; exact Nat.ne_of_lt (Nat.lt_of_lt_of_le (by have := World.block_lt_of_cell? _ _ hw911_1; first | rwa [add_block] at this | exact this) GW912.out))) _).trans (hHeld.2.2.2.2.2.2.2.1)))), ((cell_far (p := ⟨gb912, _, none⟩) (by first | exact Nat.ne_of_lt (Nat.lt_of_lt_of_le (by have := World.block_lt_of_cell? _ _ hw911_2; first | rwa [add_block] at this | exact this) GW912.out) | (rw [add_block]; exact Nat.ne_of_lt (Nat.lt_of_lt_of_le (by have := World.block_lt_of_cell? _ _ hw911_2; first | rwa [add_block] at this | exact this) GW912.out)) | (show (Addr.add _ _).block ≠ _; rw [add_block]; exact Nat.ne_of_lt (Nat.lt_of_lt_of_le (by have := World.block_lt_of_cell? _ _ hw911_2; first | rwa [add_block] at this | exact this) GW912.out)) | (dsimp only; exact Nat.ne_of_lt (Nat.lt_of_lt_of_le (by have := World.block_lt_of_cell? _ _ hw911_2; first | rwa [add_block] at this | exact this) GW912.out))) _).trans (((cell_far (p := ⟨gb912, _, none⟩) (by first | exact Nat.ne_of_lt (Nat.lt_of_lt_of_le (by have := World.block_lt_of_cell? _ _ hw911_2; first | rwa [add_block] at this | exact this) GW912.out) | (rw [add_block]; exact Nat.ne_of_lt (Nat.lt_of_lt_of_le (by have := World.block_lt_of_cell? _ _ hw911_2; first | rwa [add_block] at this | exact this) GW912.out)) | (show (Addr.add _ _).block ≠ _; rw [add_block]; exact Nat.ne_of_lt (Nat.lt_of_lt_of_le (by have := World.block_lt_of_cell? _ _ hw911_2; first | rwa [add_block] at this | exact this) GW912.out)) | (dsimp only; exact Nat.ne_of_lt (Nat.lt_of_lt_of_le (by have := World.block_lt_of_cell? _ _ hw911_2; first | rwa [add_block] at this | exact this) GW912.out))) _).trans (hHeld.2.2.2.2.2.2.2.2))))⟩ (fun hHeld => ?_)
               clear hK K
               refine puA 15 11 (bs 16 65535) ?_
               refine done_ (done_of HT_.out (by kernel_rfl)) ?_
               have hnb39 := NB912_900.out
               have hnc39 := NB900_912.out
               have hcz40_0 := blk_cell BK912.out
               have hfz40_0 := blk_frozen BK912.out
               try go_wp2
               go_loopg [8, 12] k1 (fun kq v8 v12 w' => ∃ (x8_2 : Int) (x12_2 : Int), v8 = .int .i64 x8_2 ∧ v12 = .int .i64 x12_2 ∧ Aside0 (dancestudiolaw26_RepeatsValid.l1 kq t903 t907 (wrap64 (x7_1 + (wrap64 ((wrap64 (((rd_T61 l0_2 x9_1).f0.f1) - ((rd_T61 l0_2 x9_1).f0.f0))) * (wrap64 (((rd_T61 l0_2 x9_1).f1) - 1)))))) x8_2 x9_1 (wrap64 (((rd_T61 l0_2 x9_1).f1) - 1)) x12_2 l0_0 a0_1 l0_2 ((rd_T61 l0_2 x9_1).f0.f0) ((rd_T61 l0_2 x9_1).f0.f1) = some r) ∧ Aside0 (kq ≤ k1) ∧ Aside0 (Kd.R k29 29 w' w.heap.size (fun _ => True) (.slice Ao23 t903.length co23) t903) ∧ Aside0 (w'.heap[gb900]? = some (.cells #[(.slice A0_0 l0_0.length c0_0), .int .i64 a0_1, (.slice (some ad910) l0_2.length c0_2)] 51 (0, 0))) ∧ Aside0 (w'.heap[gb912]? = some (.cells #[.int .i64 ((rd_T61 l0_2 x9_1).f0.f0), .int .i64 ((rd_T61 l0_2 x9_1).f0.f1)] 45 (0, 0))) ∧ Aside0 (Below w.heap.size w w'))
               case atStart => exact ⟨(x8_1), (0), (by first | rfl | (simp; done) | (simp [*]; done)), (by first | rfl | (simp; done) | (simp [*]; done)), H', ⟨Nat.le_refl _⟩, ⟨by (with_reducible repeat (first | apply Kd.R_alloc | apply Kd.R_drewN | apply Kd.R_drew)); exact Kd.R_mono (Kd.R_far (p := ⟨gb912, 1, none⟩) (Kd.R_far (p := ⟨gb912, 0, none⟩) (Kd.R_types HO_3.out BK912.out (by decide)) (fun _ hk => hk.2) (.int .i64 ((rd_T61 l0_2 x9_1).f0.f0))) (fun _ hk => hk.2) (.int .i64 ((rd_T61 l0_2 x9_1).f0.f1))) (fun _ hk => trivial)⟩, ⟨by (with_reducible repeat (first | refine blk_drewN ?_ _ | refine blk_drew ?_ | refine blk_alloc ?_ _)); refine (Below.heap_setCell _ ⟨_, _, none⟩ _ _ NB900_912.out).trans ?_; (with_reducible repeat (first | refine blk_drewN ?_ _ | refine blk_drew ?_ | refine blk_alloc ?_ _)); refine (Below.heap_setCell _ ⟨_, _, none⟩ _ _ NB900_912.out).trans ?_; (with_reducible repeat (first | refine blk_drewN ?_ _ | refine blk_drew ?_ | refine blk_alloc ?_ _)); exact BK900.out⟩, ⟨by (with_reducible repeat (first | refine blk_drewN ?_ _ | refine blk_drew ?_ | refine blk_alloc ?_ _)); refine blk_put (cs := #[.int .i64 ((rd_T61 l0_2 x9_1).f0.f0), .int .i64 0]) ?_ 1 _ rfl; (with_reducible repeat (first | refine blk_drewN ?_ _ | refine blk_drew ?_ | refine blk_alloc ?_ _)); refine blk_put (cs := #[.int .i64 0, .int .i64 0]) ?_ 0 _ rfl; (with_reducible repeat (first | refine blk_drewN ?_ _ | refine blk_drew ?_ | refine blk_alloc ?_ _)); exact BK912.out⟩, ⟨hU HB.out⟩⟩
               case round =>
                clear H'
                try clear c1
                try clear c2
                try clear p2
                try clear c3
                try clear c4
                try clear p6
                try clear p9
                try clear q9
                try clear hx9
                try clear c11
                try clear c11b0
                try clear c11b1
                try clear c12
                try clear c12b0
                try clear c12b1
                try clear c14
                try clear c14b0
                try clear c14b1
                try clear c15
                try clear c15b0
                try clear c15b1
                try clear c20
                try clear c27
                try clear c27b0
                try clear c28
                try clear c28b0
                try clear c29
                try clear c29b0
                try clear c30
                try clear c30b0
                try clear c31
                try clear c31b0
                try clear c32
                try clear c32b0
                try clear c33
                try clear c33b0
                try clear c36
                try clear c37
                try clear c38
                try clear c39
                try clear hcz17_0
                try clear hcz17_1
                try clear hcz17_2
                try clear hcz19_0
                try clear hcz19_1
                try clear hcz19_2
                try clear hcz21_0
                try clear hcz21_1
                try clear hcz21_2
                try clear hcz25_0
                try clear hcz25_1
                try clear hcz25_2
                try clear hcz34_0
                try clear hcz34_1
                try clear hcz34_2
                try clear hcz40_0
                try clear hcz40_1
                try clear hcz6_0
                try clear hcz6_1
                try clear hcz6_2
                try clear hfz17_0
                try clear hfz17_1
                try clear hfz17_2
                try clear hfz19_0
                try clear hfz19_1
                try clear hfz19_2
                try clear hfz21_0
                try clear hfz21_1
                try clear hfz21_2
                try clear hfz25_0
                try clear hfz25_1
                try clear hfz25_2
                try clear hfz34_0
                try clear hfz34_1
                try clear hfz34_2
                try clear hfz40_0
                try clear hfz40_1
                try clear hfz6_0
                try clear hfz6_1
                try clear hfz6_2
                try clear hx910_0
                try clear hx910_1
                try clear hx910_2
                try clear hx911_0
                try clear hx911_1
                try clear hx911_2
                try clear p2
                try clear p910
                try clear p911
                try clear q910
                try clear q911
                obtain ⟨x8_2, x12_2, rfl, rfl, HA, HK2, HO_3, BK900, BK912, HB⟩ := hrel
                cases gk with
                | zero => exact absurd HA.out (by simp [dancestudiolaw26_RepeatsValid.l1])
                | succ k2 =>
                 have H := HA.out
                 clear HA
                 simp only [dancestudiolaw26_RepeatsValid.l1] at H
                 by_cases c41 : x12_2 < (l0_0.length : Int)
                 ·rw [if_pos c41] at H
                  have c41b0 : decide (x12_2 < (l0_0.length : Int)) = true := decide_eq_true c41
                  clear c41
                  by_cases c42 : 0 ≤ x12_2
                  ·rw [if_pos c42] at H
                   have c42b0 : decide (0 ≤ x12_2) = true := decide_eq_true c42
                   clear c42
                   by_cases c43 : ((rd_T29 l0_0 x12_2).f2) ≥ ((rd_T61 l0_2 x9_1).f0.f0)
                   ·rw [if_pos c43] at H
                    have c43b0 : decide (((rd_T61 l0_2 x9_1).f0.f0) ≤ ((rd_T29 l0_0 x12_2).f2)) = true := decide_eq_true c43
                    clear c43
                    by_cases c44 : ((rd_T29 l0_0 x12_2).f2) < ((rd_T61 l0_2 x9_1).f0.f1)
                    ·rw [if_pos c44] at H
                     have c44b0 : decide (((rd_T29 l0_0 x12_2).f2) < ((rd_T61 l0_2 x9_1).f0.f1)) = true := decide_eq_true c44
                     clear c44
                     have H' := Aside0.mk H
                     clear H
                     have hnb45 := NB900_912.out
                     have hnc45 := NB912_900.out
                     have hcz46_0 := blk_cell BK900.out
                     have hfz46_0 := blk_frozen BK900.out
                     try go_wp2
                     have n0_ := Aside0.mk (Kd.R_drew HO_3.out)
                     have n1_ := Aside0.mk (blk_drew BK900.out)
                     have n2_ := Aside0.mk (blk_drew BK912.out)
                     have n3_ := Aside0.mk (below_drew1 HB.out)
                     clear HO_3
                     clear BK900
                     clear BK912
                     clear HB
                     have HO_3 := n0_
                     have BK900 := n1_
                     have BK912 := n2_
                     have HB := n3_
                     clear n0_ n1_ n2_ n3_
                     have p913 : 0 ≤ (x12_2 : Int) := of_decide_eq_true (by first | (with_reducible assumption) | assumption)
                     have q913 : x12_2 < (l0_0.length : Int) := of_decide_eq_true (by first | (with_reducible assumption) | assumption)
                     obtain ⟨ad913, e913, hx913_0, hx913_1, hx913_2, hx913_3, hx913_4, hx913_5, hx913_6⟩ := at_T29 HR0_0.out x12_2 p913 q913
                     have hw913_6 := hx913_6
                     have hw913_5 := hx913_5
                     have hw913_4 := hx913_4
                     have hw913_3 := hx913_3
                     have hw913_2 := hx913_2
                     have hw913_1 := hx913_1
                     have hw913_0 := hx913_0
                     cases e913
                     replace hx913_0 := hbC HB hx913_0
                     replace hx913_1 := hbC HB hx913_1
                     replace hx913_2 := hbC HB hx913_2
                     replace hx913_3 := hbC HB hx913_3
                     replace hx913_4 := hbC HB hx913_4
                     replace hx913_5 := hbC HB hx913_5
                     replace hx913_6 := hbC HB hx913_6
                     replace p913 := eq_true p913
                     replace q913 := eq_true q913
                     have p914 : 0 ≤ (x12_2 : Int) := of_decide_eq_true (by first | (with_reducible assumption) | assumption)
                     have q914 : x12_2 < (l0_0.length : Int) := of_decide_eq_true (by first | (with_reducible assumption) | assumption)
                     obtain ⟨ad914, e914, hx914_0, hx914_1, hx914_2, hx914_3, hx914_4, hx914_5, hx914_6⟩ := at_T29 HR0_0.out x12_2 p914 q914
                     have hw914_6 := hx914_6
                     have hw914_5 := hx914_5
                     have hw914_4 := hx914_4
                     have hw914_3 := hx914_3
                     have hw914_2 := hx914_2
                     have hw914_1 := hx914_1
                     have hw914_0 := hx914_0
                     obtain rfl : ad913 = ad914 := (by injection e914)
                     replace hx914_0 := hbC HB hx914_0
                     replace hx914_1 := hbC HB hx914_1
                     replace hx914_2 := hbC HB hx914_2
                     replace hx914_3 := hbC HB hx914_3
                     replace hx914_4 := hbC HB hx914_4
                     replace hx914_5 := hbC HB hx914_5
                     replace hx914_6 := hbC HB hx914_6
                     replace p914 := eq_true p914
                     replace q914 := eq_true q914
                     refine start_ (n := 20) (S := fun w' => w'.cell? ⟨gb900, 0, none⟩ = some (.slice (some ad913) l0_0.length c0_0) ∧ w'.cell? ⟨gb900, 1, none⟩ = some (.int .i64 a0_1) ∧ w'.cell? ⟨gb900, 2, none⟩ = some (.slice (some ad910) l0_2.length c0_2) ∧ w'.cell? ⟨gb912, 0, none⟩ = some (.int .i64 ((rd_T61 l0_2 x9_1).f0.f0)) ∧ w'.cell? ⟨gb912, 1, none⟩ = some (.int .i64 ((rd_T61 l0_2 x9_1).f0.f1)) ∧ w'.cell? (ad913.add ((x12_2).toNat * 7)) = some (.int .i64 ((rd_T29 l0_0 x12_2).f0)) ∧ w'.cell? ⟨(ad913.add ((x12_2).toNat * 7)).block, (ad913.add ((x12_2).toNat * 7)).off + 1, none⟩ = some (.int .i64 ((rd_T29 l0_0 x12_2).f1)) ∧ w'.cell? ⟨(ad913.add ((x12_2).toNat * 7)).block, (ad913.add ((x12_2).toNat * 7)).off + 2, none⟩ = some (.int .i64 ((rd_T29 l0_0 x12_2).f2)) ∧ w'.cell? ⟨(ad913.add ((x12_2).toNat * 7)).block, (ad913.add ((x12_2).toNat * 7)).off + 3, none⟩ = some (.int .i64 ((rd_T29 l0_0 x12_2).f3)) ∧ w'.cell? ⟨(ad913.add ((x12_2).toNat * 7)).block, (ad913.add ((x12_2).toNat * 7)).off + 4, none⟩ = some (.int .i64 ((rd_T29 l0_0 x12_2).f4)) ∧ w'.cell? ⟨(ad913.add ((x12_2).toNat * 7)).block, (ad913.add ((x12_2).toNat * 7)).off + 5, none⟩ = some (.int .i64 ((rd_T29 l0_0 x12_2).f5)) ∧ w'.cell? ⟨(ad913.add ((x12_2).toNat * 7)).block, (ad913.add ((x12_2).toNat * 7)).off + 6, none⟩ = some (.int .i64 ((rd_T29 l0_0 x12_2).f6)) ∧ w'.cell? (ad913.add ((x12_2).toNat * 7)) = some (.int .i64 ((rd_T29 l0_0 x12_2).f0)) ∧ w'.cell? ⟨(ad913.add ((x12_2).toNat * 7)).block, (ad913.add ((x12_2).toNat * 7)).off + 1, none⟩ = some (.int .i64 ((rd_T29 l0_0 x12_2).f1)) ∧ w'.cell? ⟨(ad913.add ((x12_2).toNat * 7)).block, (ad913.add ((x12_2).toNat * 7)).off + 2, none⟩ = some (.int .i64 ((rd_T29 l0_0 x12_2).f2)) ∧ w'.cell? ⟨(ad913.add ((x12_2).toNat * 7)).block, (ad913.add ((x12_2).toNat * 7)).off + 3, none⟩ = some (.int .i64 ((rd_T29 l0_0 x12_2).f3)) ∧ w'.cell? ⟨(ad913.add ((x12_2).toNat * 7)).block, (ad913.add ((x12_2).toNat * 7)).off + 4, none⟩ = some (.int .i64 ((rd_T29 l0_0 x12_2).f4)) ∧ w'.cell? ⟨(ad913.add ((x12_2).toNat * 7)).block, (ad913.add ((x12_2).toNat * 7)).off + 5, none⟩ = some (.int .i64 ((rd_T29 l0_0 x12_2).f5)) ∧ w'.cell? ⟨(ad913.add ((x12_2).toNat * 7)).block, (ad913.add ((x12_2).toNat * 7)).off + 6, none⟩ = some (.int .i64 ((rd_T29 l0_0 x12_2).f6))) (ds := []) #[false, false, false, false, false, false, false, false, false, false, false, false, false, false, false, false, false, false, false, false] (by kernel_rfl) rfl rfl ⟨(blk_cell BK900.out 0).trans rfl, (blk_cell BK900.out 1).trans rfl, (blk_cell BK900.out 2).trans rfl, (blk_cell BK912.out 0).trans rfl, (blk_cell BK912.out 1).trans rfl, (hbC HB hw913_0), (hbC HB hw913_1), (hbC HB hw913_2), (hbC HB hw913_3), (hbC HB hw913_4), (hbC HB hw913_5), (hbC HB hw913_6), (hbC HB hw914_0), (hbC HB hw914_1), (hbC HB hw914_2), (hbC HB hw914_3), (hbC HB hw914_4), (hbC HB hw914_5), (hbC HB hw914_6)⟩ (fun hHeld => ?_); refine with_tabW dancestudiolaw26_RepeatsValid.tab20 dancestudiolaw26_RepeatsValid.bits20 (fun HT_ HW_ => ?_)
                     generalize wr.drew = w47 at HO_3 BK900 BK912 HB hx913_0 hx913_1 hx913_2 hx913_3 hx913_4 hx913_5 hx913_6 hx914_0 hx914_1 hx914_2 hx914_3 hx914_4 hx914_5 hx914_6 hHeld ⊢
                     refine puA 0 133 (bs 20 1) ?_
                     refine puA 2 135 (bs 20 5) ?_
                     refine puA 6 139 (bs 20 69) ?_
                     refine tkA 1 134 (bs 20 71) hHeld ?_
                     refine puA 3 136 (bs 20 79) ?_
                     refine puA 4 137 (bs 20 95) ?_
                     refine tkA 5 138 (bs 20 127) hHeld ?_
                     refine tkA 7 140 (bs 20 255) hHeld ?_
                     refine puA 8 141 (bs 20 511) ?_
                     refine puA 9 142 (bs 20 1023) ?_
                     refine puA 10 143 (bs 20 2047) ?_
                     refine puA 12 145 (bs 20 6143) ?_
                     refine puA 16 149 (bs 20 71679) ?_
                     refine tkA 11 144 (bs 20 73727) hHeld ?_
                     refine puA 13 146 (bs 20 81919) ?_
                     refine puA 14 147 (bs 20 98303) ?_
                     refine tkA 15 148 (bs 20 131071) hHeld ?_
                     refine tkA 17 150 (bs 20 262143) hHeld ?_
                     refine puA 18 151 (bs 20 524287) ?_
                     refine puA 19 152 (bs 20 1048575) ?_
                     refine done_ (done_of HT_.out (by kernel_rfl)) ?_
                     try go_wp2
                     go_roundg k2
                     case measure => have := HK1.out; have := HK2.out; omega
                     case rel => exact ⟨(wrap64 (x8_2 + (wrap64 (((rd_T61 l0_2 x9_1).f1) - 1)))), (wrap64 (x12_2 + 1)), (by first | rfl | (simp; done) | (simp [*]; done)), (by first | rfl | (simp; done) | (simp [*]; done)), H', ⟨by have := HK1.out; have := HK2.out; omega⟩, ⟨by (with_reducible repeat (first | apply Kd.R_alloc | apply Kd.R_drewN | apply Kd.R_drew)); exact HO_3.out⟩, ⟨by (with_reducible repeat (first | refine blk_drewN ?_ _ | refine blk_drew ?_ | refine blk_alloc ?_ _)); exact BK900.out⟩, ⟨by (with_reducible repeat (first | refine blk_drewN ?_ _ | refine blk_drew ?_ | refine blk_alloc ?_ _)); exact BK912.out⟩, ⟨hU HB.out⟩⟩
                    ·rw [if_neg c44] at H
                     have c44b0 : decide (((rd_T29 l0_0 x12_2).f2) < ((rd_T61 l0_2 x9_1).f0.f1)) = false := decide_eq_false c44
                     clear c44
                     have H' := Aside0.mk H
                     clear H
                     have hnb48 := NB900_912.out
                     have hnc48 := NB912_900.out
                     have hcz49_0 := blk_cell BK900.out
                     have hfz49_0 := blk_frozen BK900.out
                     try go_wp2
                     have n0_ := Aside0.mk (Kd.R_drew HO_3.out)
                     have n1_ := Aside0.mk (blk_drew BK900.out)
                     have n2_ := Aside0.mk (blk_drew BK912.out)
                     have n3_ := Aside0.mk (below_drew1 HB.out)
                     clear HO_3
                     clear BK900
                     clear BK912
                     clear HB
                     have HO_3 := n0_
                     have BK900 := n1_
                     have BK912 := n2_
                     have HB := n3_
                     clear n0_ n1_ n2_ n3_
                     have p913 : 0 ≤ (x12_2 : Int) := of_decide_eq_true (by first | (with_reducible assumption) | assumption)
                     have q913 : x12_2 < (l0_0.length : Int) := of_decide_eq_true (by first | (with_reducible assumption) | assumption)
                     obtain ⟨ad913, e913, hx913_0, hx913_1, hx913_2, hx913_3, hx913_4, hx913_5, hx913_6⟩ := at_T29 HR0_0.out x12_2 p913 q913
                     have hw913_6 := hx913_6
                     have hw913_5 := hx913_5
                     have hw913_4 := hx913_4
                     have hw913_3 := hx913_3
                     have hw913_2 := hx913_2
                     have hw913_1 := hx913_1
                     have hw913_0 := hx913_0
                     cases e913
                     replace hx913_0 := hbC HB hx913_0
                     replace hx913_1 := hbC HB hx913_1
                     replace hx913_2 := hbC HB hx913_2
                     replace hx913_3 := hbC HB hx913_3
                     replace hx913_4 := hbC HB hx913_4
                     replace hx913_5 := hbC HB hx913_5
                     replace hx913_6 := hbC HB hx913_6
                     replace p913 := eq_true p913
                     replace q913 := eq_true q913
                     have p914 : 0 ≤ (x12_2 : Int) := of_decide_eq_true (by first | (with_reducible assumption) | assumption)
                     have q914 : x12_2 < (l0_0.length : Int) := of_decide_eq_true (by first | (with_reducible assumption) | assumption)
                     obtain ⟨ad914, e914, hx914_0, hx914_1, hx914_2, hx914_3, hx914_4, hx914_5, hx914_6⟩ := at_T29 HR0_0.out x12_2 p914 q914
                     have hw914_6 := hx914_6
                     have hw914_5 := hx914_5
                     have hw914_4 := hx914_4
                     have hw914_3 := hx914_3
                     have hw914_2 := hx914_2
                     have hw914_1 := hx914_1
                     have hw914_0 := hx914_0
                     obtain rfl : ad913 = ad914 := (by injection e914)
                     replace hx914_0 := hbC HB hx914_0
                     replace hx914_1 := hbC HB hx914_1
                     replace hx914_2 := hbC HB hx914_2
                     replace hx914_3 := hbC HB hx914_3
                     replace hx914_4 := hbC HB hx914_4
                     replace hx914_5 := hbC HB hx914_5
                     replace hx914_6 := hbC HB hx914_6
                     replace p914 := eq_true p914
                     replace q914 := eq_true q914
                     refine start_ (n := 20) (S := fun w' => w'.cell? ⟨gb900, 0, none⟩ = some (.slice (some ad913) l0_0.length c0_0) ∧ w'.cell? ⟨gb900, 1, none⟩ = some (.int .i64 a0_1) ∧ w'.cell? ⟨gb900, 2, none⟩ = some (.slice (some ad910) l0_2.length c0_2) ∧ w'.cell? ⟨gb912, 0, none⟩ = some (.int .i64 ((rd_T61 l0_2 x9_1).f0.f0)) ∧ w'.cell? ⟨gb912, 1, none⟩ = some (.int .i64 ((rd_T61 l0_2 x9_1).f0.f1)) ∧ w'.cell? (ad913.add ((x12_2).toNat * 7)) = some (.int .i64 ((rd_T29 l0_0 x12_2).f0)) ∧ w'.cell? ⟨(ad913.add ((x12_2).toNat * 7)).block, (ad913.add ((x12_2).toNat * 7)).off + 1, none⟩ = some (.int .i64 ((rd_T29 l0_0 x12_2).f1)) ∧ w'.cell? ⟨(ad913.add ((x12_2).toNat * 7)).block, (ad913.add ((x12_2).toNat * 7)).off + 2, none⟩ = some (.int .i64 ((rd_T29 l0_0 x12_2).f2)) ∧ w'.cell? ⟨(ad913.add ((x12_2).toNat * 7)).block, (ad913.add ((x12_2).toNat * 7)).off + 3, none⟩ = some (.int .i64 ((rd_T29 l0_0 x12_2).f3)) ∧ w'.cell? ⟨(ad913.add ((x12_2).toNat * 7)).block, (ad913.add ((x12_2).toNat * 7)).off + 4, none⟩ = some (.int .i64 ((rd_T29 l0_0 x12_2).f4)) ∧ w'.cell? ⟨(ad913.add ((x12_2).toNat * 7)).block, (ad913.add ((x12_2).toNat * 7)).off + 5, none⟩ = some (.int .i64 ((rd_T29 l0_0 x12_2).f5)) ∧ w'.cell? ⟨(ad913.add ((x12_2).toNat * 7)).block, (ad913.add ((x12_2).toNat * 7)).off + 6, none⟩ = some (.int .i64 ((rd_T29 l0_0 x12_2).f6)) ∧ w'.cell? (ad913.add ((x12_2).toNat * 7)) = some (.int .i64 ((rd_T29 l0_0 x12_2).f0)) ∧ w'.cell? ⟨(ad913.add ((x12_2).toNat * 7)).block, (ad913.add ((x12_2).toNat * 7)).off + 1, none⟩ = some (.int .i64 ((rd_T29 l0_0 x12_2).f1)) ∧ w'.cell? ⟨(ad913.add ((x12_2).toNat * 7)).block, (ad913.add ((x12_2).toNat * 7)).off + 2, none⟩ = some (.int .i64 ((rd_T29 l0_0 x12_2).f2)) ∧ w'.cell? ⟨(ad913.add ((x12_2).toNat * 7)).block, (ad913.add ((x12_2).toNat * 7)).off + 3, none⟩ = some (.int .i64 ((rd_T29 l0_0 x12_2).f3)) ∧ w'.cell? ⟨(ad913.add ((x12_2).toNat * 7)).block, (ad913.add ((x12_2).toNat * 7)).off + 4, none⟩ = some (.int .i64 ((rd_T29 l0_0 x12_2).f4)) ∧ w'.cell? ⟨(ad913.add ((x12_2).toNat * 7)).block, (ad913.add ((x12_2).toNat * 7)).off + 5, none⟩ = some (.int .i64 ((rd_T29 l0_0 x12_2).f5)) ∧ w'.cell? ⟨(ad913.add ((x12_2).toNat * 7)).block, (ad913.add ((x12_2).toNat * 7)).off + 6, none⟩ = some (.int .i64 ((rd_T29 l0_0 x12_2).f6))) (ds := []) #[false, false, false, false, false, false, false, false, false, false, false, false, false, false, false, false, false, false, false, false] (by kernel_rfl) rfl rfl ⟨(blk_cell BK900.out 0).trans rfl, (blk_cell BK900.out 1).trans rfl, (blk_cell BK900.out 2).trans rfl, (blk_cell BK912.out 0).trans rfl, (blk_cell BK912.out 1).trans rfl, (hbC HB hw913_0), (hbC HB hw913_1), (hbC HB hw913_2), (hbC HB hw913_3), (hbC HB hw913_4), (hbC HB hw913_5), (hbC HB hw913_6), (hbC HB hw914_0), (hbC HB hw914_1), (hbC HB hw914_2), (hbC HB hw914_3), (hbC HB hw914_4), (hbC HB hw914_5), (hbC HB hw914_6)⟩ (fun hHeld => ?_); refine with_tabW dancestudiolaw26_RepeatsValid.tab20 dancestudiolaw26_RepeatsValid.bits20 (fun HT_ HW_ => ?_)
                     generalize wr.drew = w50 at HO_3 BK900 BK912 HB hx913_0 hx913_1 hx913_2 hx913_3 hx913_4 hx913_5 hx913_6 hx914_0 hx914_1 hx914_2 hx914_3 hx914_4 hx914_5 hx914_6 hHeld ⊢
                     refine puA 0 133 (bs 20 1) ?_
                     refine puA 2 135 (bs 20 5) ?_
                     refine puA 6 139 (bs 20 69) ?_
                     refine tkA 1 134 (bs 20 71) hHeld ?_
                     refine puA 3 136 (bs 20 79) ?_
                     refine puA 4 137 (bs 20 95) ?_
                     refine tkA 5 138 (bs 20 127) hHeld ?_
                     refine tkA 7 140 (bs 20 255) hHeld ?_
                     refine puA 8 141 (bs 20 511) ?_
                     refine puA 9 142 (bs 20 1023) ?_
                     refine puA 10 143 (bs 20 2047) ?_
                     refine puA 12 145 (bs 20 6143) ?_
                     refine puA 16 149 (bs 20 71679) ?_
                     refine tkA 11 144 (bs 20 73727) hHeld ?_
                     refine puA 13 146 (bs 20 81919) ?_
                     refine puA 14 147 (bs 20 98303) ?_
                     refine tkA 15 148 (bs 20 131071) hHeld ?_
                     refine tkA 17 150 (bs 20 262143) hHeld ?_
                     refine puA 18 151 (bs 20 524287) ?_
                     refine puA 19 152 (bs 20 1048575) ?_
                     refine done_ (done_of HT_.out (by kernel_rfl)) ?_
                     try go_wp2
                     go_roundg k2
                     case measure => have := HK1.out; have := HK2.out; omega
                     case rel => exact ⟨(x8_2), (wrap64 (x12_2 + 1)), (by first | rfl | (simp; done) | (simp [*]; done)), (by first | rfl | (simp; done) | (simp [*]; done)), H', ⟨by have := HK1.out; have := HK2.out; omega⟩, ⟨by (with_reducible repeat (first | apply Kd.R_alloc | apply Kd.R_drewN | apply Kd.R_drew)); exact HO_3.out⟩, ⟨by (with_reducible repeat (first | refine blk_drewN ?_ _ | refine blk_drew ?_ | refine blk_alloc ?_ _)); exact BK900.out⟩, ⟨by (with_reducible repeat (first | refine blk_drewN ?_ _ | refine blk_drew ?_ | refine blk_alloc ?_ _)); exact BK912.out⟩, ⟨hU HB.out⟩⟩
                   ·rw [if_neg c43] at H
                    have c43b0 : decide (((rd_T61 l0_2 x9_1).f0.f0) ≤ ((rd_T29 l0_0 x12_2).f2)) = false := decide_eq_false c43
                    clear c43
                    have H' := Aside0.mk H
                    clear H
                    have hnb51 := NB900_912.out
                    have hnc51 := NB912_900.out
                    have hcz52_0 := blk_cell BK900.out
                    have hfz52_0 := blk_frozen BK900.out
                    try go_wp2
                    have n0_ := Aside0.mk (Kd.R_drew HO_3.out)
                    have n1_ := Aside0.mk (blk_drew BK900.out)
                    have n2_ := Aside0.mk (blk_drew BK912.out)
                    have n3_ := Aside0.mk (below_drew1 HB.out)
                    clear HO_3
                    clear BK900
                    clear BK912
                    clear HB
                    have HO_3 := n0_
                    have BK900 := n1_
                    have BK912 := n2_
                    have HB := n3_
                    clear n0_ n1_ n2_ n3_
                    have p913 : 0 ≤ (x12_2 : Int) := of_decide_eq_true (by first | (with_reducible assumption) | assumption)
                    have q913 : x12_2 < (l0_0.length : Int) := of_decide_eq_true (by first | (with_reducible assumption) | assumption)
                    obtain ⟨ad913, e913, hx913_0, hx913_1, hx913_2, hx913_3, hx913_4, hx913_5, hx913_6⟩ := at_T29 HR0_0.out x12_2 p913 q913
                    have hw913_6 := hx913_6
                    have hw913_5 := hx913_5
                    have hw913_4 := hx913_4
                    have hw913_3 := hx913_3
                    have hw913_2 := hx913_2
                    have hw913_1 := hx913_1
                    have hw913_0 := hx913_0
                    cases e913
                    replace hx913_0 := hbC HB hx913_0
                    replace hx913_1 := hbC HB hx913_1
                    replace hx913_2 := hbC HB hx913_2
                    replace hx913_3 := hbC HB hx913_3
                    replace hx913_4 := hbC HB hx913_4
                    replace hx913_5 := hbC HB hx913_5
                    replace hx913_6 := hbC HB hx913_6
                    replace p913 := eq_true p913
                    replace q913 := eq_true q913
                    refine start_ (n := 20) (S := fun w' => w'.cell? ⟨gb900, 0, none⟩ = some (.slice (some ad913) l0_0.length c0_0) ∧ w'.cell? ⟨gb900, 1, none⟩ = some (.int .i64 a0_1) ∧ w'.cell? ⟨gb900, 2, none⟩ = some (.slice (some ad910) l0_2.length c0_2) ∧ w'.cell? ⟨gb912, 0, none⟩ = some (.int .i64 ((rd_T61 l0_2 x9_1).f0.f0)) ∧ w'.cell? ⟨gb912, 1, none⟩ = some (.int .i64 ((rd_T61 l0_2 x9_1).f0.f1)) ∧ w'.cell? (ad913.add ((x12_2).toNat * 7)) = some (.int .i64 ((rd_T29 l0_0 x12_2).f0)) ∧ w'.cell? ⟨(ad913.add ((x12_2).toNat * 7)).block, (ad913.add ((x12_2).toNat * 7)).off + 1, none⟩ = some (.int .i64 ((rd_T29 l0_0 x12_2).f1)) ∧ w'.cell? ⟨(ad913.add ((x12_2).toNat * 7)).block, (ad913.add ((x12_2).toNat * 7)).off + 2, none⟩ = some (.int .i64 ((rd_T29 l0_0 x12_2).f2)) ∧ w'.cell? ⟨(ad913.add ((x12_2).toNat * 7)).block, (ad913.add ((x12_2).toNat * 7)).off + 3, none⟩ = some (.int .i64 ((rd_T29 l0_0 x12_2).f3)) ∧ w'.cell? ⟨(ad913.add ((x12_2).toNat * 7)).block, (ad913.add ((x12_2).toNat * 7)).off + 4, none⟩ = some (.int .i64 ((rd_T29 l0_0 x12_2).f4)) ∧ w'.cell? ⟨(ad913.add ((x12_2).toNat * 7)).block, (ad913.add ((x12_2).toNat * 7)).off + 5, none⟩ = some (.int .i64 ((rd_T29 l0_0 x12_2).f5)) ∧ w'.cell? ⟨(ad913.add ((x12_2).toNat * 7)).block, (ad913.add ((x12_2).toNat * 7)).off + 6, none⟩ = some (.int .i64 ((rd_T29 l0_0 x12_2).f6))) (ds := []) #[false, false, false, false, false, false, false, false, false, false, false, false, false, false, false, false, false, false, false, false] (by kernel_rfl) rfl rfl ⟨(blk_cell BK900.out 0).trans rfl, (blk_cell BK900.out 1).trans rfl, (blk_cell BK900.out 2).trans rfl, (blk_cell BK912.out 0).trans rfl, (blk_cell BK912.out 1).trans rfl, (hbC HB hw913_0), (hbC HB hw913_1), (hbC HB hw913_2), (hbC HB hw913_3), (hbC HB hw913_4), (hbC HB hw913_5), (hbC HB hw913_6)⟩ (fun hHeld => ?_); refine with_tabW dancestudiolaw26_RepeatsValid.tab20 dancestudiolaw26_RepeatsValid.bits20 (fun HT_ HW_ => ?_)
                    generalize wr.drew = w53 at HO_3 BK900 BK912 HB hx913_0 hx913_1 hx913_2 hx913_3 hx913_4 hx913_5 hx913_6 hHeld ⊢
                    refine puA 0 133 (bs 20 1) ?_
                    refine puA 2 135 (bs 20 5) ?_
                    refine puA 6 139 (bs 20 69) ?_
                    refine tkA 1 134 (bs 20 71) hHeld ?_
                    refine puA 3 136 (bs 20 79) ?_
                    refine puA 4 137 (bs 20 95) ?_
                    refine tkA 5 138 (bs 20 127) hHeld ?_
                    refine tkA 7 140 (bs 20 255) hHeld ?_
                    refine puA 8 141 (bs 20 511) ?_
                    refine puA 9 142 (bs 20 1023) ?_
                    refine skA 10 143 (bs 20 2047) ?_
                    refine skA 11 144 (bs 20 4095) ?_
                    refine skA 12 145 (bs 20 8191) ?_
                    refine skA 13 146 (bs 20 16383) ?_
                    refine skA 14 147 (bs 20 32767) ?_
                    refine skA 15 148 (bs 20 65535) ?_
                    refine skA 16 149 (bs 20 131071) ?_
                    refine skA 17 150 (bs 20 262143) ?_
                    refine skA 18 151 (bs 20 524287) ?_
                    refine puA 19 152 (bs 20 1048575) ?_
                    refine done_ (done_of HT_.out (by kernel_rfl)) ?_
                    try go_wp2
                    go_roundg k2
                    case measure => have := HK1.out; have := HK2.out; omega
                    case rel => exact ⟨(x8_2), (wrap64 (x12_2 + 1)), (by first | rfl | (simp; done) | (simp [*]; done)), (by first | rfl | (simp; done) | (simp [*]; done)), H', ⟨by have := HK1.out; have := HK2.out; omega⟩, ⟨by (with_reducible repeat (first | apply Kd.R_alloc | apply Kd.R_drewN | apply Kd.R_drew)); exact HO_3.out⟩, ⟨by (with_reducible repeat (first | refine blk_drewN ?_ _ | refine blk_drew ?_ | refine blk_alloc ?_ _)); exact BK900.out⟩, ⟨by (with_reducible repeat (first | refine blk_drewN ?_ _ | refine blk_drew ?_ | refine blk_alloc ?_ _)); exact BK912.out⟩, ⟨hU HB.out⟩⟩
                  ·rw [if_neg c42] at H
                   exact absurd H (by simp)
                 ·rw [if_neg c41] at H
                  have c41b0 : decide (x12_2 < (l0_0.length : Int)) = false := decide_eq_false c41
                  clear c41
                  have H' := Aside0.mk H
                  clear H
                  have hnb54 := NB900_912.out
                  have hnc54 := NB912_900.out
                  have hcz55_0 := blk_cell BK900.out
                  have hfz55_0 := blk_frozen BK900.out
                  go_wp2
                  go_roundg k2
                  case measure => have := HK1.out; have := HK2.out; omega
                  case rel => exact ⟨((wrap64 (x7_1 + (wrap64 ((wrap64 (((rd_T61 l0_2 x9_1).f0.f1) - ((rd_T61 l0_2 x9_1).f0.f0))) * (wrap64 (((rd_T61 l0_2 x9_1).f1) - 1))))))), (x8_2), (wrap64 (x9_1 + 1)), (by first | rfl | (simp; done) | (simp [*]; done)), (by first | rfl | (simp; done) | (simp [*]; done)), (by first | rfl | (simp; done) | (simp [*]; done)), H', ⟨by have := HK1.out; have := HK2.out; omega⟩, ⟨by (with_reducible repeat (first | apply Kd.R_alloc | apply Kd.R_drewN | apply Kd.R_drew)); exact HO_3.out⟩, ⟨by (with_reducible repeat (first | refine blk_drewN ?_ _ | refine blk_drew ?_ | refine blk_alloc ?_ _)); exact BK900.out⟩, ⟨hU HB.out⟩⟩
         ·rw [if_neg c28] at H
          exact absurd H (by simp)
        ·rw [if_neg c27] at H
         have c27b0 : decide (x9_1 < (l0_2.length : Int)) = false := decide_eq_false c27
         clear c27
         by_cases c56 : x7_1 = t907
         ·rw [if_pos c56] at H
          have c56b0 : (x7_1 == t907) = true := beq_iff_eq.mpr c56
          have c56b1 : (x7_1 != t907) = false := bne_eq_false_iff_eq.mpr c56
          clear c56
          by_cases c57 : x8_1 = (t903.length : Int)
          ·rw [if_pos c57] at H
           have c57b0 : (x8_1 == (t903.length : Int)) = true := beq_iff_eq.mpr c57
           have c57b1 : (x8_1 != (t903.length : Int)) = false := bne_eq_false_iff_eq.mpr c57
           clear c57
           replace H := Option.bind_eq_some_iff.mp H
           obtain ⟨t915, A580, H⟩ := H
           replace H : (some t915) = some r := H
           have A58 := Aside0.mk A580
           clear A580
           obtain rfl := Option.some.inj H
           have hcz59_0 := blk_cell BK900.out
           have hfz59_0 := blk_frozen BK900.out
           go_wp2_with (first | (go_at_call 37; (with_reducible refine (dancestudiolaw26_awake.calls k1  t915 _ A58.out).mono ?_); rintro e w60 ⟨rfl, hb⟩; have n0_ := Aside0.mk (Kd.R_below (Kd.rU HO_3.out) hb); have n1_ := Aside0.mk (blk_below (bU BK900.out) hb); have n2_ := Aside0.mk (below_step (hU HB.out) hb); clear HO_3; clear BK900; clear HB; have HO_3 := n0_; have BK900 := n1_; have HB := n2_; clear n0_ n1_ n2_; (try clear hb); (try clear hb2); (try clear hk); (try clear hi)))
           go_ret
           exact ⟨by first | rfl | (simp [errW_none, errW_some] <;> rfl) | (simp [*, errW_none, errW_some] <;> rfl), hU HB.out⟩
          ·rw [if_neg c57] at H
           exact absurd H (by simp)
         ·rw [if_neg c56] at H
          exact absurd H (by simp)
    ·rw [if_neg c14] at H
     exact absurd H (by simp)
   ·rw [if_neg c12] at H
    have c12b0 : (t908 == 0) = false := beq_eq_false_iff_ne.mpr c12
    have c12b1 : (t908 != 0) = true := bne_iff_ne.mpr c12
    by_cases c61 : t904 = t908
    ·rw [if_pos c61] at H
     have c61b0 : (t904 == t908) = true := beq_iff_eq.mpr c61
     have c61b1 : (t904 != t908) = false := bne_eq_false_iff_eq.mpr c61
     clear c61
     replace H := Option.bind_eq_some_iff.mp H
     obtain ⟨t916, A620, H⟩ := H
     replace H : (if t904 = t916 then ((dancestudiolaw26_awake.f k).bind fun t917 => (some t917)) else (none)) = some r := H
     have A62 := Aside0.mk A620
     clear A620
     by_cases c63 : t904 = t916
     ·rw [if_pos c63] at H
      have c63b0 : (t904 == t916) = true := beq_iff_eq.mpr c63
      have c63b1 : (t904 != t916) = false := bne_eq_false_iff_eq.mpr c63
      clear c63
      replace H := Option.bind_eq_some_iff.mp H
      obtain ⟨t917, A640, H⟩ := H
      replace H : (some t917) = some r := H
      have A64 := Aside0.mk A640
      clear A640
      obtain rfl := Option.some.inj H
      go_enter Try.func15, Try.ntmps15
      go_wp2_with (first | ((with_reducible refine gate_dst (N := 1) rfl ?_); (try (refine gate_guard (by rfl) ?_; dsimp only)); refine box_event ?hg (N := 1) ?hd (cs := #[.slice A0_0 l0_0.length c0_0, .int .i64 a0_1, .slice A0_2 l0_2.length c0_2]) (t := 51) ?hr ?_; (case hd => rfl); (case hg => rfl); (case hr => first | (go_simp; done) | (go_simp; rfl)); intro gb900 hg w65 hbox hb; have n0_ := Aside0.mk (below_step (hU HB.out) hb); have n1_ := Aside0.mk (hbox); have n2_ := Aside0.mk ((by rw [hg]; exact (below_size (hU HB.out)) : w.heap.size ≤ gb900)); have n3_ := Aside0.mk ((by rw [hg]; exact (below_size (hU HB.out)) : w.heap.size ≤ gb900)); clear HB; have HB := n0_; have BK900 := n1_; have GW900 := n2_; have GE900 := n3_; clear n0_ n1_ n2_ n3_; clear hb hbox hg; have hcz66_0 := blk_cell BK900.out; have hfz66_0 := blk_frozen BK900.out) | ((with_reducible refine gate_callee (f := 36) rfl ?_); refine goesL_ (some 14) rfl rfl Try.func36 (by kernel_rfl) rfl #[.agg #[.slice A0_0 l0_0.length c0_0, .int .i64 a0_1, .slice A0_2 l0_2.length c0_2]] rfl (by (try simp only [List.map_toArray, List.map_cons, List.map_nil]); first | done | rfl | (simp only [List.length_drop, List.length_take]; rfl)) ?_; (with_reducible refine (dancestudiolaw26_great.calls _ _ l0_0 a0_1 _ _ l0_2 false _ ?side1 ?side2 ?side3 ?side4 A2.out).mono ?_); (case side1 => repeat (first | exact (Kd.C_below HR0_0.out HB.out) | (with_reducible refine Kd.C_alloc ?_ _) | (with_reducible refine Kd.C_drewN ?_ _) | (with_reducible refine Kd.C_drew ?_))); (case side2 => exact HC0_0.out); (case side3 => repeat (first | exact (Kd.C_below HR0_2.out HB.out) | (with_reducible refine Kd.C_alloc ?_ _) | (with_reducible refine Kd.C_drewN ?_ _) | (with_reducible refine Kd.C_drew ?_))); (case side4 => exact HC0_2.out); rintro e w67 ⟨rfl, hb⟩; refine ⟨_, rfl, ?_⟩; have n0_ := Aside0.mk (blk_below (bU BK900.out) hb); have n1_ := Aside0.mk (below_step (hU HB.out) hb); clear BK900; clear HB; have BK900 := n0_; have HB := n1_; clear n0_ n1_; (try clear hb); (try clear hb2); (try clear hk); (try clear hi); have hcz68_0 := blk_cell BK900.out; have hfz68_0 := blk_frozen BK900.out) | ((with_reducible refine gate_callee (f := 42) rfl ?_); refine goesL_ (some 23) rfl rfl Try.func42 (by kernel_rfl) rfl #[.slice A0_0 l0_0.length c0_0, .int .i64 a0_1, .slice A0_2 l0_2.length c0_2] rfl (by (try simp only [List.map_toArray, List.map_cons, List.map_nil]); first | done | rfl | (simp only [List.length_drop, List.length_take]; rfl)) ?_; (with_reducible refine (repeats_Perform.calls _ _ l0_0 a0_1 _ _ l0_2 t903 t904 _ ?side1 ?side2 ?side3 ?side4 A9.out).mono ?_); (case side1 => repeat (first | exact (Kd.C_below HR0_0.out HB.out) | (with_reducible refine Kd.C_alloc ?_ _) | (with_reducible refine Kd.C_drewN ?_ _) | (with_reducible refine Kd.C_drew ?_))); (case side2 => exact HC0_0.out); (case side3 => repeat (first | exact (Kd.C_below HR0_2.out HB.out) | (with_reducible refine Kd.C_alloc ?_ _) | (with_reducible refine Kd.C_drewN ?_ _) | (with_reducible refine Kd.C_drew ?_))); (case side4 => exact HC0_2.out); rintro e w69 ⟨v905, rfl, ho0, hb⟩; refine ⟨_, rfl, ?_⟩; have n0_ := Aside0.mk (Kd.R_lower ho0 (below_size (hU HB.out))); have n1_ := Aside0.mk (blk_below (bU BK900.out) hb); have n2_ := Aside0.mk (below_step (hU HB.out) hb); clear BK900; clear HB; have HO906 := n0_; have BK900 := n1_; have HB := n2_; clear n0_ n1_ n2_; (try clear hb); (try clear hb2); (try clear hk); (try clear hi); (try clear ho0); have hcz70_0 := blk_cell BK900.out; have hfz70_0 := blk_frozen BK900.out) | ((with_reducible refine gate_callee (f := 38) rfl ?_); refine goesL_ (some 33) rfl rfl Try.func38 (by kernel_rfl) rfl #[.slice A0_0 l0_0.length c0_0, .int .i64 a0_1, .slice A0_2 l0_2.length c0_2] rfl (by (try simp only [List.map_toArray, List.map_cons, List.map_nil]); first | done | rfl | (simp only [List.length_drop, List.length_take]; rfl)) ?_; (with_reducible refine (repeats_Length.calls _ _ l0_0 a0_1 _ _ l0_2 t907 t908 _ ?side1 ?side2 ?side3 ?side4 A10.out).mono ?_); (case side1 => repeat (first | exact (Kd.C_below HR0_0.out HB.out) | (with_reducible refine Kd.C_alloc ?_ _) | (with_reducible refine Kd.C_drewN ?_ _) | (with_reducible refine Kd.C_drew ?_))); (case side2 => exact HC0_0.out); (case side3 => repeat (first | exact (Kd.C_below HR0_2.out HB.out) | (with_reducible refine Kd.C_alloc ?_ _) | (with_reducible refine Kd.C_drewN ?_ _) | (with_reducible refine Kd.C_drew ?_))); (case side4 => exact HC0_2.out); rintro e w71 ⟨rfl, hb⟩; refine ⟨_, rfl, ?_⟩; have n0_ := Aside0.mk (Kd.R_below (Kd.rU HO906.out) hb); have n1_ := Aside0.mk (blk_below (bU BK900.out) hb); have n2_ := Aside0.mk (below_step (hU HB.out) hb); clear HO906; clear BK900; clear HB; have HO906 := n0_; have BK900 := n1_; have HB := n2_; clear n0_ n1_ n2_; (try clear hb); (try clear hb2); (try clear hk); (try clear hi); have hcz72_0 := blk_cell BK900.out; have hfz72_0 := blk_frozen BK900.out) | (go_at_call 40; (with_reducible refine (repeats_Check.calls _ _ l0_0 a0_1 _ _ l0_2 t916 _ ?side1 ?side2 ?side3 ?side4 A62.out).mono ?_); (case side1 => repeat (first | exact (Kd.C_below HR0_0.out HB.out) | (with_reducible refine Kd.C_alloc ?_ _) | (with_reducible refine Kd.C_drewN ?_ _) | (with_reducible refine Kd.C_drew ?_))); (case side2 => exact HC0_0.out); (case side3 => repeat (first | exact (Kd.C_below HR0_2.out HB.out) | (with_reducible refine Kd.C_alloc ?_ _) | (with_reducible refine Kd.C_drewN ?_ _) | (with_reducible refine Kd.C_drew ?_))); (case side4 => exact HC0_2.out); rintro e w73 ⟨rfl, hb⟩; have n0_ := Aside0.mk (Kd.R_below (Kd.rU HO906.out) hb); have n1_ := Aside0.mk (blk_below (bU BK900.out) hb); have n2_ := Aside0.mk (below_step (hU HB.out) hb); clear HO906; clear BK900; clear HB; have HO906 := n0_; have BK900 := n1_; have HB := n2_; clear n0_ n1_ n2_; (try clear hb); (try clear hb2); (try clear hk); (try clear hi)) | (go_at_call 37; (with_reducible refine (dancestudiolaw26_awake.calls k  t917 _ A64.out).mono ?_); rintro e w74 ⟨rfl, hb⟩; have n0_ := Aside0.mk (Kd.R_below (Kd.rU HO906.out) hb); have n1_ := Aside0.mk (blk_below (bU BK900.out) hb); have n2_ := Aside0.mk (below_step (hU HB.out) hb); clear HO906; clear BK900; clear HB; have HO906 := n0_; have BK900 := n1_; have HB := n2_; clear n0_ n1_ n2_; (try clear hb); (try clear hb2); (try clear hk); (try clear hi)))
      go_ret
      exact ⟨by first | rfl | (simp [errW_none, errW_some] <;> rfl) | (simp [*, errW_none, errW_some] <;> rfl), hU HB.out⟩
     ·rw [if_neg c63] at H
      exact absurd H (by simp)
    ·rw [if_neg c61] at H
     exact absurd H (by simp)
  ·rw [if_neg c11] at H
   have c11b0 : (t904 == 0) = false := beq_eq_false_iff_ne.mpr c11
   have c11b1 : (t904 != 0) = true := bne_iff_ne.mpr c11
   by_cases c75 : t904 = t908
   ·rw [if_pos c75] at H
    have c75b0 : (t904 == t908) = true := beq_iff_eq.mpr c75
    have c75b1 : (t904 != t908) = false := bne_eq_false_iff_eq.mpr c75
    clear c75
    replace H := Option.bind_eq_some_iff.mp H
    obtain ⟨t918, A760, H⟩ := H
    replace H : (if t904 = t918 then ((dancestudiolaw26_awake.f k).bind fun t919 => (some t919)) else (none)) = some r := H
    have A76 := Aside0.mk A760
    clear A760
    by_cases c77 : t904 = t918
    ·rw [if_pos c77] at H
     have c77b0 : (t904 == t918) = true := beq_iff_eq.mpr c77
     have c77b1 : (t904 != t918) = false := bne_eq_false_iff_eq.mpr c77
     clear c77
     replace H := Option.bind_eq_some_iff.mp H
     obtain ⟨t919, A780, H⟩ := H
     replace H : (some t919) = some r := H
     have A78 := Aside0.mk A780
     clear A780
     obtain rfl := Option.some.inj H
     go_enter Try.func15, Try.ntmps15
     go_wp2_with (first | ((with_reducible refine gate_dst (N := 1) rfl ?_); (try (refine gate_guard (by rfl) ?_; dsimp only)); refine box_event ?hg (N := 1) ?hd (cs := #[.slice A0_0 l0_0.length c0_0, .int .i64 a0_1, .slice A0_2 l0_2.length c0_2]) (t := 51) ?hr ?_; (case hd => rfl); (case hg => rfl); (case hr => first | (go_simp; done) | (go_simp; rfl)); intro gb900 hg w79 hbox hb; have n0_ := Aside0.mk (below_step (hU HB.out) hb); have n1_ := Aside0.mk (hbox); have n2_ := Aside0.mk ((by rw [hg]; exact (below_size (hU HB.out)) : w.heap.size ≤ gb900)); have n3_ := Aside0.mk ((by rw [hg]; exact (below_size (hU HB.out)) : w.heap.size ≤ gb900)); clear HB; have HB := n0_; have BK900 := n1_; have GW900 := n2_; have GE900 := n3_; clear n0_ n1_ n2_ n3_; clear hb hbox hg; have hcz80_0 := blk_cell BK900.out; have hfz80_0 := blk_frozen BK900.out) | ((with_reducible refine gate_callee (f := 36) rfl ?_); refine goesL_ (some 14) rfl rfl Try.func36 (by kernel_rfl) rfl #[.agg #[.slice A0_0 l0_0.length c0_0, .int .i64 a0_1, .slice A0_2 l0_2.length c0_2]] rfl (by (try simp only [List.map_toArray, List.map_cons, List.map_nil]); first | done | rfl | (simp only [List.length_drop, List.length_take]; rfl)) ?_; (with_reducible refine (dancestudiolaw26_great.calls _ _ l0_0 a0_1 _ _ l0_2 false _ ?side1 ?side2 ?side3 ?side4 A2.out).mono ?_); (case side1 => repeat (first | exact (Kd.C_below HR0_0.out HB.out) | (with_reducible refine Kd.C_alloc ?_ _) | (with_reducible refine Kd.C_drewN ?_ _) | (with_reducible refine Kd.C_drew ?_))); (case side2 => exact HC0_0.out); (case side3 => repeat (first | exact (Kd.C_below HR0_2.out HB.out) | (with_reducible refine Kd.C_alloc ?_ _) | (with_reducible refine Kd.C_drewN ?_ _) | (with_reducible refine Kd.C_drew ?_))); (case side4 => exact HC0_2.out); rintro e w81 ⟨rfl, hb⟩; refine ⟨_, rfl, ?_⟩; have n0_ := Aside0.mk (blk_below (bU BK900.out) hb); have n1_ := Aside0.mk (below_step (hU HB.out) hb); clear BK900; clear HB; have BK900 := n0_; have HB := n1_; clear n0_ n1_; (try clear hb); (try clear hb2); (try clear hk); (try clear hi); have hcz82_0 := blk_cell BK900.out; have hfz82_0 := blk_frozen BK900.out) | ((with_reducible refine gate_callee (f := 42) rfl ?_); refine goesL_ (some 23) rfl rfl Try.func42 (by kernel_rfl) rfl #[.slice A0_0 l0_0.length c0_0, .int .i64 a0_1, .slice A0_2 l0_2.length c0_2] rfl (by (try simp only [List.map_toArray, List.map_cons, List.map_nil]); first | done | rfl | (simp only [List.length_drop, List.length_take]; rfl)) ?_; (with_reducible refine (repeats_Perform.calls _ _ l0_0 a0_1 _ _ l0_2 t903 t904 _ ?side1 ?side2 ?side3 ?side4 A9.out).mono ?_); (case side1 => repeat (first | exact (Kd.C_below HR0_0.out HB.out) | (with_reducible refine Kd.C_alloc ?_ _) | (with_reducible refine Kd.C_drewN ?_ _) | (with_reducible refine Kd.C_drew ?_))); (case side2 => exact HC0_0.out); (case side3 => repeat (first | exact (Kd.C_below HR0_2.out HB.out) | (with_reducible refine Kd.C_alloc ?_ _) | (with_reducible refine Kd.C_drewN ?_ _) | (with_reducible refine Kd.C_drew ?_))); (case side4 => exact HC0_2.out); rintro e w83 ⟨v905, rfl, ho0, hb⟩; refine ⟨_, rfl, ?_⟩; have n0_ := Aside0.mk (Kd.R_lower ho0 (below_size (hU HB.out))); have n1_ := Aside0.mk (blk_below (bU BK900.out) hb); have n2_ := Aside0.mk (below_step (hU HB.out) hb); clear BK900; clear HB; have HO906 := n0_; have BK900 := n1_; have HB := n2_; clear n0_ n1_ n2_; (try clear hb); (try clear hb2); (try clear hk); (try clear hi); (try clear ho0); have hcz84_0 := blk_cell BK900.out; have hfz84_0 := blk_frozen BK900.out) | ((with_reducible refine gate_callee (f := 38) rfl ?_); refine goesL_ (some 33) rfl rfl Try.func38 (by kernel_rfl) rfl #[.slice A0_0 l0_0.length c0_0, .int .i64 a0_1, .slice A0_2 l0_2.length c0_2] rfl (by (try simp only [List.map_toArray, List.map_cons, List.map_nil]); first | done | rfl | (simp only [List.length_drop, List.length_take]; rfl)) ?_; (with_reducible refine (repeats_Length.calls _ _ l0_0 a0_1 _ _ l0_2 t907 t908 _ ?side1 ?side2 ?side3 ?side4 A10.out).mono ?_); (case side1 => repeat (first | exact (Kd.C_below HR0_0.out HB.out) | (with_reducible refine Kd.C_alloc ?_ _) | (with_reducible refine Kd.C_drewN ?_ _) | (with_reducible refine Kd.C_drew ?_))); (case side2 => exact HC0_0.out); (case side3 => repeat (first | exact (Kd.C_below HR0_2.out HB.out) | (with_reducible refine Kd.C_alloc ?_ _) | (with_reducible refine Kd.C_drewN ?_ _) | (with_reducible refine Kd.C_drew ?_))); (case side4 => exact HC0_2.out); rintro e w85 ⟨rfl, hb⟩; refine ⟨_, rfl, ?_⟩; have n0_ := Aside0.mk (Kd.R_below (Kd.rU HO906.out) hb); have n1_ := Aside0.mk (blk_below (bU BK900.out) hb); have n2_ := Aside0.mk (below_step (hU HB.out) hb); clear HO906; clear BK900; clear HB; have HO906 := n0_; have BK900 := n1_; have HB := n2_; clear n0_ n1_ n2_; (try clear hb); (try clear hb2); (try clear hk); (try clear hi); have hcz86_0 := blk_cell BK900.out; have hfz86_0 := blk_frozen BK900.out) | (go_at_call 40; (with_reducible refine (repeats_Check.calls _ _ l0_0 a0_1 _ _ l0_2 t918 _ ?side1 ?side2 ?side3 ?side4 A76.out).mono ?_); (case side1 => repeat (first | exact (Kd.C_below HR0_0.out HB.out) | (with_reducible refine Kd.C_alloc ?_ _) | (with_reducible refine Kd.C_drewN ?_ _) | (with_reducible refine Kd.C_drew ?_))); (case side2 => exact HC0_0.out); (case side3 => repeat (first | exact (Kd.C_below HR0_2.out HB.out) | (with_reducible refine Kd.C_alloc ?_ _) | (with_reducible refine Kd.C_drewN ?_ _) | (with_reducible refine Kd.C_drew ?_))); (case side4 => exact HC0_2.out); rintro e w87 ⟨rfl, hb⟩; have n0_ := Aside0.mk (Kd.R_below (Kd.rU HO906.out) hb); have n1_ := Aside0.mk (blk_below (bU BK900.out) hb); have n2_ := Aside0.mk (below_step (hU HB.out) hb); clear HO906; clear BK900; clear HB; have HO906 := n0_; have BK900 := n1_; have HB := n2_; clear n0_ n1_ n2_; (try clear hb); (try clear hb2); (try clear hk); (try clear hi)) | (go_at_call 37; (with_reducible refine (dancestudiolaw26_awake.calls k  t919 _ A78.out).mono ?_); rintro e w88 ⟨rfl, hb⟩; have n0_ := Aside0.mk (Kd.R_below (Kd.rU HO906.out) hb); have n1_ := Aside0.mk (blk_below (bU BK900.out) hb); have n2_ := Aside0.mk (below_step (hU HB.out) hb); clear HO906; clear BK900; clear HB; have HO906 := n0_; have BK900 := n1_; have HB := n2_; clear n0_ n1_ n2_; (try clear hb); (try clear hb2); (try clear hk); (try clear hi)))
     go_ret
     exact ⟨by first | rfl | (simp [errW_none, errW_some] <;> rfl) | (simp [*, errW_none, errW_some] <;> rfl), hU HB.out⟩
    ·rw [if_neg c77] at H
     exact absurd H (by simp)
   ·rw [if_neg c75] at H
    exact absurd H (by simp)

end Go.Proofs.Ytdilndbanhianaa.P

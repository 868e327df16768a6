-- Written by a program of this session (myprint.py over the kit's print): the Go functions of the seat as Lean functions, and what their calls do.
import Derived.Test.YtdilndbanhianaaReg
import Derived.Test.YtdilndbanhianaaMA
import Derived.Test.YtdilndbanhianaaME
import Derived.Test.YtdilndbanhianaaMD
import Derived.Test.YtdilndbanhianaaMC
namespace Go.Proofs.Ytdilndbanhianaa.P
open Go.RowKit Go.Proofs.YtdilndbanhianaaW.PrintWords Go.Proofs.YtdilndbanhianaaW.PrintLast Go.Proofs.YtdilndbanhianaaW.PrintMore
attribute [local go_sem] max2_int min2_int max_two min_two max_three min_three max_four min_four   -- for this text's walks alone
set_option linter.unusedVariables false
set_option linter.unusedSimpArgs false

attribute [local go_sem high] eqA29
/-! ### dancestudiolaw24_StaffColumns: function 11 -/
mutual
def dancestudiolaw24_StaffColumns.l0 : Nat → List (S29) → Int → Int → Int → Int → Option (Bool)
 | 0, _, _, _, _, _ => none
 | k + 1, x0, x1, x2, x7, x8 => if x8 < 9 then ((staff_Column.f x0 x1 x8).bind fun bt493 => ((staff_At.f x0 x1 x8 x2).bind fun bt497 => (if bt493.2 = 0 then (if bt497.2 = 0 then (if bt497.1 < (-1) then (none) else (if bt497.1 ≥ (x0.length : Int) then (none) else (dancestudiolaw24_StaffColumns.l1 k x0 x1 x2 (wrap64 (x7 + (bt493.1.length : Int))) x8 bt493.1 bt497.1 0 0))) else (none)) else (none)))) else (if x7 = (x0.length : Int) then ((dancestudiolaw24_awake.f k).bind fun t506 => (some t506)) else (none))
def dancestudiolaw24_StaffColumns.l1 : Nat → List (S29) → Int → Int → Int → Int → List (S29) → Int → Int → Int → Option (Bool)
 | 0, _, _, _, _, _, _, _, _, _ => none
 | k + 1, x0, x1, x2, x7, x8, x9, x11, x13, x14 => if x14 < (x0.length : Int) then (if 0 ≤ x14 then (if ((rd_T29 x0 x14).f1) = x8 then (if x13 ≥ (x9.length : Int) then (none) else (if 0 ≤ x13 then (if x13 < (x9.length : Int) then (if (!(((rd_T29 x9 x13).f0) == ((rd_T29 x0 x14).f0)) || (!(((rd_T29 x9 x13).f1) == ((rd_T29 x0 x14).f1)) || (!(((rd_T29 x9 x13).f2) == ((rd_T29 x0 x14).f2)) || (!(((rd_T29 x9 x13).f3) == ((rd_T29 x0 x14).f3)) || (!(((rd_T29 x9 x13).f4) == ((rd_T29 x0 x14).f4)) || (!(((rd_T29 x9 x13).f5) == ((rd_T29 x0 x14).f5)) || (!(((rd_T29 x9 x13).f6) == ((rd_T29 x0 x14).f6))))))))) = true then (none) else (if ((rd_T29 x0 x14).f2) ≤ x2 then (if ((x11 == x14) != (decide (x2 < (wrap64 (((rd_T29 x0 x14).f2) + ((rd_T29 x0 x14).f3)))))) = true then (none) else (dancestudiolaw24_StaffColumns.l1 k x0 x1 x2 x7 x8 x9 x11 (wrap64 (x13 + 1)) (wrap64 (x14 + 1)))) else (if ((x11 == x14) != false) = true then (none) else (dancestudiolaw24_StaffColumns.l1 k x0 x1 x2 x7 x8 x9 x11 (wrap64 (x13 + 1)) (wrap64 (x14 + 1)))))) else (none)) else (none))) else (dancestudiolaw24_StaffColumns.l1 k x0 x1 x2 x7 x8 x9 x11 x13 (wrap64 (x14 + 1)))) else (none)) else (if x11 ≥ 0 then (if 0 ≤ x11 then (if x11 < (x0.length : Int) then (if ((rd_T29 x0 x11).f1) = x8 then (dancestudiolaw24_StaffColumns.l0 k x0 x1 x2 x7 (wrap64 (x8 + 1))) else (none)) else (none)) else (none)) else (dancestudiolaw24_StaffColumns.l0 k x0 x1 x2 x7 (wrap64 (x8 + 1))))
end
def dancestudiolaw24_StaffColumns.f (k : Nat) (l0 : List (S29)) (a1 : Int) (a2 : Int) : Option (Bool) := if (l0.length : Int) > 60 then ((dancestudiolaw24_awake.f k).bind fun t489 => (some t489)) else ((staff_Check.f l0 a1).bind fun t490 => (if t490 = 0 then (if a2 < 0 then ((dancestudiolaw24_awake.f k).bind fun t491 => (some t491)) else (if a2 ≥ a1 then ((dancestudiolaw24_awake.f k).bind fun t492 => (some t492)) else (dancestudiolaw24_StaffColumns.l0 k l0 a1 a2 0 0))) else ((dancestudiolaw24_awake.f k).bind fun t507 => (some t507))))
theorem dancestudiolaw24_StaffColumns.mono_l : ∀ k, (∀ y0 y1 y2 y3 y4, LeO (dancestudiolaw24_StaffColumns.l0 k y0 y1 y2 y3 y4) (dancestudiolaw24_StaffColumns.l0 (k + 1) y0 y1 y2 y3 y4)) ∧ (∀ y0 y1 y2 y3 y4 y5 y6 y7 y8, LeO (dancestudiolaw24_StaffColumns.l1 k y0 y1 y2 y3 y4 y5 y6 y7 y8) (dancestudiolaw24_StaffColumns.l1 (k + 1) y0 y1 y2 y3 y4 y5 y6 y7 y8))
 | 0 => ⟨fun _ _ _ _ _ r h => by simp [dancestudiolaw24_StaffColumns.l0] at h, fun _ _ _ _ _ _ _ _ _ r h => by simp [dancestudiolaw24_StaffColumns.l1] at h⟩
 | k + 1 => by
  obtain ⟨ih0, ih1⟩ := dancestudiolaw24_StaffColumns.mono_l k
  refine ⟨?_, ?_⟩
  ·intro y0 y1 y2 y3 y4
   unfold dancestudiolaw24_StaffColumns.l0
   repeat' first
   | (with_reducible exact ih0 _ _ _ _ _)
   | (with_reducible exact ih1 _ _ _ _ _ _ _ _ _)
   | (with_reducible exact dancestudiolaw24_awake.mono _)
   | (with_reducible exact LeO.refl _)
   | (with_reducible exact LeO.none _)
   | (with_reducible refine LeO.ite ?_ ?_)
   | (with_reducible refine LeO.bind ?_ (fun _ => ?_))
   | exact ih0 _ _ _ _ _
   | exact ih1 _ _ _ _ _ _ _ _ _
   | exact dancestudiolaw24_awake.mono _
   | exact LeO.none _
   | refine LeO.ite ?_ ?_
   | refine LeO.bind ?_ (fun _ => ?_)
  ·intro y0 y1 y2 y3 y4 y5 y6 y7 y8
   unfold dancestudiolaw24_StaffColumns.l1
   repeat' first
   | (with_reducible exact ih0 _ _ _ _ _)
   | (with_reducible exact ih1 _ _ _ _ _ _ _ _ _)
   | (with_reducible exact dancestudiolaw24_awake.mono _)
   | (with_reducible exact LeO.refl _)
   | (with_reducible exact LeO.none _)
   | (with_reducible refine LeO.ite ?_ ?_)
   | (with_reducible refine LeO.bind ?_ (fun _ => ?_))
   | exact ih0 _ _ _ _ _
   | exact ih1 _ _ _ _ _ _ _ _ _
   | exact dancestudiolaw24_awake.mono _
   | exact LeO.none _
   | refine LeO.ite ?_ ?_
   | refine LeO.bind ?_ (fun _ => ?_)
theorem dancestudiolaw24_StaffColumns.mono : ∀ a0 a1 a2 k, LeO (dancestudiolaw24_StaffColumns.f k a0 a1 a2) (dancestudiolaw24_StaffColumns.f (k + 1) a0 a1 a2) := by
 intro a0 a1 a2 k
 obtain ⟨ih0, ih1⟩ := dancestudiolaw24_StaffColumns.mono_l k
 unfold dancestudiolaw24_StaffColumns.f
 repeat' first
   | (with_reducible exact ih0 _ _ _ _ _)
   | (with_reducible exact ih1 _ _ _ _ _ _ _ _ _)
   | (with_reducible exact dancestudiolaw24_awake.mono _)
   | (with_reducible exact LeO.refl _)
   | (with_reducible exact LeO.none _)
   | (with_reducible refine LeO.ite ?_ ?_)
   | (with_reducible refine LeO.bind ?_ (fun _ => ?_))
   | exact ih0 _ _ _ _ _
   | exact ih1 _ _ _ _ _ _ _ _ _
   | exact dancestudiolaw24_awake.mono _
   | exact LeO.none _
   | refine LeO.ite ?_ ?_
   | refine LeO.bind ?_ (fun _ => ?_)
set_option maxHeartbeats 8000000 in
set_option maxRecDepth 100000 in
theorem dancestudiolaw24_StaffColumns.calls (k : Nat) (A0 : Option Addr) (c0 : Nat) (l0 : List (S29)) (a1 : Int) (a2 : Int) (r : Bool) (w : World) (hr0 : Kd.C k29 w A0 l0.length l0) (hc0 : l0.length ≤ c0) (h : dancestudiolaw24_StaffColumns.f k l0 a1 a2 = some r) :
  Calls Try.prog 11 #[.slice A0 l0.length c0, .int .i64 a1, .int .i64 a2] w fun e w' => e = .returned (.bool r) ∧ Below w.heap.size w w' := by
 have hu29 := Try.underlying29
 have HR0 := Aside0.mk hr0
 have HC0 := Aside0.mk hc0
 clear hr0 hc0
 have HB := Aside0.mk (Below.refl w.heap.size w)
 have H : (if (l0.length : Int) > 60 then ((dancestudiolaw24_awake.f k).bind fun t489 => (some t489)) else ((staff_Check.f l0 a1).bind fun t490 => (if t490 = 0 then (if a2 < 0 then ((dancestudiolaw24_awake.f k).bind fun t491 => (some t491)) else (if a2 ≥ a1 then ((dancestudiolaw24_awake.f k).bind fun t492 => (some t492)) else (dancestudiolaw24_StaffColumns.l0 k l0 a1 a2 0 0))) else ((dancestudiolaw24_awake.f k).bind fun t507 => (some t507))))) = some r := h
 clear h
 by_cases c4 : (l0.length : Int) > 60
 ·rw [if_pos c4] at H
  have c4b0 : decide (60 < (l0.length : Int)) = true := decide_eq_true c4
  have c4b1 : decide (60 < l0.length) = true := decide_eq_true (by omega)
  clear c4
  replace H := Option.bind_eq_some_iff.mp H
  obtain ⟨t489, A50, H⟩ := H
  replace H : (some t489) = some r := H
  have A5 := Aside0.mk A50
  clear A50
  obtain rfl := Option.some.inj H
  go_enter Try.func11, Try.ntmps11
  go_wp2_with (first | (go_at_call 22; (with_reducible refine (dancestudiolaw24_awake.calls k  t489 _ A5.out).mono ?_); rintro e w6 ⟨rfl, hb⟩; have n0_ := Aside0.mk (below_step (hU HB.out) hb); clear HB; have HB := n0_; clear n0_; (try clear hb); (try clear hb2); (try clear hk); (try clear hi)))
  repeat (go_quiet (first | (go_at_call 22; (with_reducible refine (dancestudiolaw24_awake.calls k  t489 _ A5.out).mono ?_); rintro e w6 ⟨rfl, hb⟩; have n0_ := Aside0.mk (below_step (hU HB.out) hb); clear HB; have HB := n0_; clear n0_; (try clear hb); (try clear hb2); (try clear hk); (try clear hi))); try go_wp2_with (first | (go_at_call 22; (with_reducible refine (dancestudiolaw24_awake.calls k  t489 _ A5.out).mono ?_); rintro e w6 ⟨rfl, hb⟩; have n0_ := Aside0.mk (below_step (hU HB.out) hb); clear HB; have HB := n0_; clear n0_; (try clear hb); (try clear hb2); (try clear hk); (try clear hi))))
  go_ret
  exact ⟨by first | rfl | (simp [errW_none, errW_some] <;> rfl) | (simp [*, errW_none, errW_some] <;> rfl), hU HB.out⟩
 ·rw [if_neg c4] at H
  have c4b0 : decide (60 < (l0.length : Int)) = false := decide_eq_false c4
  have c4b1 : decide (60 < l0.length) = false := decide_eq_false (by omega)
  clear c4
  replace H := Option.bind_eq_some_iff.mp H
  obtain ⟨t490, A70, H⟩ := H
  try dsimp only at H
  have A7 := Aside0.mk A70
  clear A70
  by_cases c8 : t490 = 0
  ·rw [if_pos c8] at H
   have c8b0 : (t490 == 0) = true := beq_iff_eq.mpr c8
   have c8b1 : (t490 != 0) = false := bne_eq_false_iff_eq.mpr c8
   clear c8
   by_cases c9 : a2 < 0
   ·rw [if_pos c9] at H
    have c9b0 : decide (a2 < 0) = true := decide_eq_true c9
    clear c9
    replace H := Option.bind_eq_some_iff.mp H
    obtain ⟨t491, A100, H⟩ := H
    replace H : (some t491) = some r := H
    have A10 := Aside0.mk A100
    clear A100
    obtain rfl := Option.some.inj H
    go_enter Try.func11, Try.ntmps11
    go_wp2_with (first | (go_at_call 20; (with_reducible refine (staff_Check.calls _ _ l0 a1 t490 _ ?side1 ?side2 A7.out).mono ?_); (case side1 => repeat (first | exact HR0.out | (with_reducible refine Kd.C_alloc ?_ _) | (with_reducible refine Kd.C_drewN ?_ _) | (with_reducible refine Kd.C_drew ?_))); (case side2 => exact HC0.out); rintro e w11 ⟨rfl, hb⟩; have n0_ := Aside0.mk (below_step (hU HB.out) hb); clear HB; have HB := n0_; clear n0_; (try clear hb); (try clear hb2); (try clear hk); (try clear hi)) | (go_at_call 22; (with_reducible refine (dancestudiolaw24_awake.calls k  t491 _ A10.out).mono ?_); rintro e w12 ⟨rfl, hb⟩; have n0_ := Aside0.mk (below_step (hU HB.out) hb); clear HB; have HB := n0_; clear n0_; (try clear hb); (try clear hb2); (try clear hk); (try clear hi)))
    repeat (go_quiet (first | (go_at_call 20; (with_reducible refine (staff_Check.calls _ _ l0 a1 t490 _ ?side1 ?side2 A7.out).mono ?_); (case side1 => repeat (first | exact HR0.out | (with_reducible refine Kd.C_alloc ?_ _) | (with_reducible refine Kd.C_drewN ?_ _) | (with_reducible refine Kd.C_drew ?_))); (case side2 => exact HC0.out); rintro e w11 ⟨rfl, hb⟩; have n0_ := Aside0.mk (below_step (hU HB.out) hb); clear HB; have HB := n0_; clear n0_; (try clear hb); (try clear hb2); (try clear hk); (try clear hi)) | (go_at_call 22; (with_reducible refine (dancestudiolaw24_awake.calls k  t491 _ A10.out).mono ?_); rintro e w12 ⟨rfl, hb⟩; have n0_ := Aside0.mk (below_step (hU HB.out) hb); clear HB; have HB := n0_; clear n0_; (try clear hb); (try clear hb2); (try clear hk); (try clear hi))); try go_wp2_with (first | (go_at_call 20; (with_reducible refine (staff_Check.calls _ _ l0 a1 t490 _ ?side1 ?side2 A7.out).mono ?_); (case side1 => repeat (first | exact HR0.out | (with_reducible refine Kd.C_alloc ?_ _) | (with_reducible refine Kd.C_drewN ?_ _) | (with_reducible refine Kd.C_drew ?_))); (case side2 => exact HC0.out); rintro e w11 ⟨rfl, hb⟩; have n0_ := Aside0.mk (below_step (hU HB.out) hb); clear HB; have HB := n0_; clear n0_; (try clear hb); (try clear hb2); (try clear hk); (try clear hi)) | (go_at_call 22; (with_reducible refine (dancestudiolaw24_awake.calls k  t491 _ A10.out).mono ?_); rintro e w12 ⟨rfl, hb⟩; have n0_ := Aside0.mk (below_step (hU HB.out) hb); clear HB; have HB := n0_; clear n0_; (try clear hb); (try clear hb2); (try clear hk); (try clear hi))))
    go_ret
    exact ⟨by first | rfl | (simp [errW_none, errW_some] <;> rfl) | (simp [*, errW_none, errW_some] <;> rfl), hU HB.out⟩
   ·rw [if_neg c9] at H
    have c9b0 : decide (a2 < 0) = false := decide_eq_false c9
    clear c9
    by_cases c13 : a2 ≥ a1
    ·rw [if_pos c13] at H
     have c13b0 : decide (a1 ≤ a2) = true := decide_eq_true c13
     clear c13
     replace H := Option.bind_eq_some_iff.mp H
     obtain ⟨t492, A140, H⟩ := H
     replace H : (some t492) = some r := H
     have A14 := Aside0.mk A140
     clear A140
     obtain rfl := Option.some.inj H
     go_enter Try.func11, Try.ntmps11
     go_wp2_with (first | (go_at_call 20; (with_reducible refine (staff_Check.calls _ _ l0 a1 t490 _ ?side1 ?side2 A7.out).mono ?_); (case side1 => repeat (first | exact HR0.out | (with_reducible refine Kd.C_alloc ?_ _) | (with_reducible refine Kd.C_drewN ?_ _) | (with_reducible refine Kd.C_drew ?_))); (case side2 => exact HC0.out); rintro e w15 ⟨rfl, hb⟩; have n0_ := Aside0.mk (below_step (hU HB.out) hb); clear HB; have HB := n0_; clear n0_; (try clear hb); (try clear hb2); (try clear hk); (try clear hi)) | (go_at_call 22; (with_reducible refine (dancestudiolaw24_awake.calls k  t492 _ A14.out).mono ?_); rintro e w16 ⟨rfl, hb⟩; have n0_ := Aside0.mk (below_step (hU HB.out) hb); clear HB; have HB := n0_; clear n0_; (try clear hb); (try clear hb2); (try clear hk); (try clear hi)))
     repeat (go_quiet (first | (go_at_call 20; (with_reducible refine (staff_Check.calls _ _ l0 a1 t490 _ ?side1 ?side2 A7.out).mono ?_); (case side1 => repeat (first | exact HR0.out | (with_reducible refine Kd.C_alloc ?_ _) | (with_reducible refine Kd.C_drewN ?_ _) | (with_reducible refine Kd.C_drew ?_))); (case side2 => exact HC0.out); rintro e w15 ⟨rfl, hb⟩; have n0_ := Aside0.mk (below_step (hU HB.out) hb); clear HB; have HB := n0_; clear n0_; (try clear hb); (try clear hb2); (try clear hk); (try clear hi)) | (go_at_call 22; (with_reducible refine (dancestudiolaw24_awake.calls k  t492 _ A14.out).mono ?_); rintro e w16 ⟨rfl, hb⟩; have n0_ := Aside0.mk (below_step (hU HB.out) hb); clear HB; have HB := n0_; clear n0_; (try clear hb); (try clear hb2); (try clear hk); (try clear hi))); try go_wp2_with (first | (go_at_call 20; (with_reducible refine (staff_Check.calls _ _ l0 a1 t490 _ ?side1 ?side2 A7.out).mono ?_); (case side1 => repeat (first | exact HR0.out | (with_reducible refine Kd.C_alloc ?_ _) | (with_reducible refine Kd.C_drewN ?_ _) | (with_reducible refine Kd.C_drew ?_))); (case side2 => exact HC0.out); rintro e w15 ⟨rfl, hb⟩; have n0_ := Aside0.mk (below_step (hU HB.out) hb); clear HB; have HB := n0_; clear n0_; (try clear hb); (try clear hb2); (try clear hk); (try clear hi)) | (go_at_call 22; (with_reducible refine (dancestudiolaw24_awake.calls k  t492 _ A14.out).mono ?_); rintro e w16 ⟨rfl, hb⟩; have n0_ := Aside0.mk (below_step (hU HB.out) hb); clear HB; have HB := n0_; clear n0_; (try clear hb); (try clear hb2); (try clear hk); (try clear hi))))
     go_ret
     exact ⟨by first | rfl | (simp [errW_none, errW_some] <;> rfl) | (simp [*, errW_none, errW_some] <;> rfl), hU HB.out⟩
    ·rw [if_neg c13] at H
     have c13b0 : decide (a1 ≤ a2) = false := decide_eq_false c13
     clear c13
     have H' := Aside0.mk H
     clear H
     go_enter Try.func11, Try.ntmps11
     go_wp2_with (first | (go_at_call 20; (with_reducible refine (staff_Check.calls _ _ l0 a1 t490 _ ?side1 ?side2 A7.out).mono ?_); (case side1 => repeat (first | exact HR0.out | (with_reducible refine Kd.C_alloc ?_ _) | (with_reducible refine Kd.C_drewN ?_ _) | (with_reducible refine Kd.C_drew ?_))); (case side2 => exact HC0.out); rintro e w17 ⟨rfl, hb⟩; have n0_ := Aside0.mk (below_step (hU HB.out) hb); clear HB; have HB := n0_; clear n0_; (try clear hb); (try clear hb2); (try clear hk); (try clear hi)))
     repeat (go_quiet (first | (go_at_call 20; (with_reducible refine (staff_Check.calls _ _ l0 a1 t490 _ ?side1 ?side2 A7.out).mono ?_); (case side1 => repeat (first | exact HR0.out | (with_reducible refine Kd.C_alloc ?_ _) | (with_reducible refine Kd.C_drewN ?_ _) | (with_reducible refine Kd.C_drew ?_))); (case side2 => exact HC0.out); rintro e w17 ⟨rfl, hb⟩; have n0_ := Aside0.mk (below_step (hU HB.out) hb); clear HB; have HB := n0_; clear n0_; (try clear hb); (try clear hb2); (try clear hk); (try clear hi))); try go_wp2_with (first | (go_at_call 20; (with_reducible refine (staff_Check.calls _ _ l0 a1 t490 _ ?side1 ?side2 A7.out).mono ?_); (case side1 => repeat (first | exact HR0.out | (with_reducible refine Kd.C_alloc ?_ _) | (with_reducible refine Kd.C_drewN ?_ _) | (with_reducible refine Kd.C_drew ?_))); (case side2 => exact HC0.out); rintro e w17 ⟨rfl, hb⟩; have n0_ := Aside0.mk (below_step (hU HB.out) hb); clear HB; have HB := n0_; clear n0_; (try clear hb); (try clear hb2); (try clear hk); (try clear hi))))
     go_loopg [7, 8] k (fun kq v7 v8 w' => ∃ (x7_1 : Int) (x8_1 : Int), v7 = .int .i64 x7_1 ∧ v8 = .int .i64 x8_1 ∧ Aside0 (dancestudiolaw24_StaffColumns.l0 kq l0 a1 a2 x7_1 x8_1 = some r) ∧ Aside0 (kq ≤ k) ∧ Aside0 (Below w.heap.size w w'))
     case atStart => exact ⟨(0), (0), (by first | rfl | (simp; done) | (simp [*]; done)), (by first | rfl | (simp; done) | (simp [*]; done)), H', ⟨Nat.le_refl _⟩, ⟨hU HB.out⟩⟩
     case round =>
      clear H'
      try clear c1
      try clear p2
      try clear c4
      try clear c4b0
      try clear c4b1
      try clear c8
      try clear c8b0
      try clear c8b1
      try clear c9
      try clear c9b0
      try clear c11
      try clear c13
      try clear c13b0
      obtain ⟨x7_1, x8_1, rfl, rfl, HA, HK1, HB⟩ := hrel
      cases gk with
      | zero => exact absurd HA.out (by simp [dancestudiolaw24_StaffColumns.l0])
      | succ k1 =>
       have H := HA.out
       clear HA
       simp only [dancestudiolaw24_StaffColumns.l0] at H
       by_cases c18 : x8_1 < 9
       ·rw [if_pos c18] at H
        have c18b0 : decide (x8_1 < 9) = true := decide_eq_true c18
        clear c18
        replace H := Option.bind_eq_some_iff.mp H
        obtain ⟨⟨t493, t494⟩, A190, H⟩ := H
        try dsimp only at H
        have A19 := Aside0.mk A190
        clear A190
        replace H := Option.bind_eq_some_iff.mp H
        obtain ⟨⟨t497, t498⟩, A200, H⟩ := H
        try dsimp only at H
        have A20 := Aside0.mk A200
        clear A200
        by_cases c21 : t494 = 0
        ·rw [if_pos c21] at H
         have c21b0 : (t494 == 0) = true := beq_iff_eq.mpr c21
         have c21b1 : (t494 != 0) = false := bne_eq_false_iff_eq.mpr c21
         clear c21
         by_cases c22 : t498 = 0
         ·rw [if_pos c22] at H
          have c22b0 : (t498 == 0) = true := beq_iff_eq.mpr c22
          have c22b1 : (t498 != 0) = false := bne_eq_false_iff_eq.mpr c22
          clear c22
          by_cases c23 : t497 < (-1)
          ·rw [if_pos c23] at H
           exact absurd H (by simp)
          ·rw [if_neg c23] at H
           have c23b0 : decide (t497 < (-1)) = false := decide_eq_false c23
           clear c23
           by_cases c24 : t497 ≥ (l0.length : Int)
           ·rw [if_pos c24] at H
            exact absurd H (by simp)
           ·rw [if_neg c24] at H
            have c24b0 : decide ((l0.length : Int) ≤ t497) = false := decide_eq_false c24
            clear c24
            have H' := Aside0.mk H
            clear H
            go_wp2_with (first | (go_at_call 28; (with_reducible refine (staff_Column.calls _ _ l0 a1 x8_1 t493 t494 _ ?side1 ?side2 A19.out).mono ?_); (case side1 => repeat (first | exact (Kd.C_below HR0.out HB.out) | (with_reducible refine Kd.C_alloc ?_ _) | (with_reducible refine Kd.C_drewN ?_ _) | (with_reducible refine Kd.C_drew ?_))); (case side2 => exact HC0.out); rintro e w25 ⟨v495, rfl, ho0, hb⟩; have n0_ := Aside0.mk (Kd.R_lower ho0 (below_size (hU HB.out))); have n1_ := Aside0.mk (below_step (hU HB.out) hb); clear HB; have HO496 := n0_; have HB := n1_; clear n0_ n1_; (try clear hb); (try clear hb2); (try clear hk); (try clear hi); (try clear ho0)) | (go_at_call 30; (with_reducible refine (staff_At.calls _ _ l0 a1 x8_1 a2 t497 t498 _ ?side1 ?side2 A20.out).mono ?_); (case side1 => repeat (first | exact (Kd.C_below HR0.out HB.out) | (with_reducible refine Kd.C_alloc ?_ _) | (with_reducible refine Kd.C_drewN ?_ _) | (with_reducible refine Kd.C_drew ?_))); (case side2 => exact HC0.out); rintro e w26 ⟨rfl, hb⟩; have n0_ := Aside0.mk (Kd.R_below (Kd.rU HO496.out) hb); have n1_ := Aside0.mk (below_step (hU HB.out) hb); clear HO496; clear HB; have HO496 := n0_; have HB := n1_; clear n0_ n1_; (try clear hb); (try clear hb2); (try clear hk); (try clear hi); obtain ⟨Ao27, co27, eo27⟩ := Kd.R_slice HO496.out; subst eo27))
            repeat (go_quiet (first | (go_at_call 28; (with_reducible refine (staff_Column.calls _ _ l0 a1 x8_1 t493 t494 _ ?side1 ?side2 A19.out).mono ?_); (case side1 => repeat (first | exact (Kd.C_below HR0.out HB.out) | (with_reducible refine Kd.C_alloc ?_ _) | (with_reducible refine Kd.C_drewN ?_ _) | (with_reducible refine Kd.C_drew ?_))); (case side2 => exact HC0.out); rintro e w25 ⟨v495, rfl, ho0, hb⟩; have n0_ := Aside0.mk (Kd.R_lower ho0 (below_size (hU HB.out))); have n1_ := Aside0.mk (below_step (hU HB.out) hb); clear HB; have HO496 := n0_; have HB := n1_; clear n0_ n1_; (try clear hb); (try clear hb2); (try clear hk); (try clear hi); (try clear ho0)) | (go_at_call 30; (with_reducible refine (staff_At.calls _ _ l0 a1 x8_1 a2 t497 t498 _ ?side1 ?side2 A20.out).mono ?_); (case side1 => repeat (first | exact (Kd.C_below HR0.out HB.out) | (with_reducible refine Kd.C_alloc ?_ _) | (with_reducible refine Kd.C_drewN ?_ _) | (with_reducible refine Kd.C_drew ?_))); (case side2 => exact HC0.out); rintro e w26 ⟨rfl, hb⟩; have n0_ := Aside0.mk (Kd.R_below (Kd.rU HO496.out) hb); have n1_ := Aside0.mk (below_step (hU HB.out) hb); clear HO496; clear HB; have HO496 := n0_; have HB := n1_; clear n0_ n1_; (try clear hb); (try clear hb2); (try clear hk); (try clear hi); obtain ⟨Ao27, co27, eo27⟩ := Kd.R_slice HO496.out; subst eo27)); try go_wp2_with (first | (go_at_call 28; (with_reducible refine (staff_Column.calls _ _ l0 a1 x8_1 t493 t494 _ ?side1 ?side2 A19.out).mono ?_); (case side1 => repeat (first | exact (Kd.C_below HR0.out HB.out) | (with_reducible refine Kd.C_alloc ?_ _) | (with_reducible refine Kd.C_drewN ?_ _) | (with_reducible refine Kd.C_drew ?_))); (case side2 => exact HC0.out); rintro e w25 ⟨v495, rfl, ho0, hb⟩; have n0_ := Aside0.mk (Kd.R_lower ho0 (below_size (hU HB.out))); have n1_ := Aside0.mk (below_step (hU HB.out) hb); clear HB; have HO496 := n0_; have HB := n1_; clear n0_ n1_; (try clear hb); (try clear hb2); (try clear hk); (try clear hi); (try clear ho0)) | (go_at_call 30; (with_reducible refine (staff_At.calls _ _ l0 a1 x8_1 a2 t497 t498 _ ?side1 ?side2 A20.out).mono ?_); (case side1 => repeat (first | exact (Kd.C_below HR0.out HB.out) | (with_reducible refine Kd.C_alloc ?_ _) | (with_reducible refine Kd.C_drewN ?_ _) | (with_reducible refine Kd.C_drew ?_))); (case side2 => exact HC0.out); rintro e w26 ⟨rfl, hb⟩; have n0_ := Aside0.mk (Kd.R_below (Kd.rU HO496.out) hb); have n1_ := Aside0.mk (below_step (hU HB.out) hb); clear HO496; clear HB; have HO496 := n0_; have HB := n1_; clear n0_ n1_; (try clear hb); (try clear hb2); (try clear hk); (try clear hi); obtain ⟨Ao27, co27, eo27⟩ := Kd.R_slice HO496.out; subst eo27)))
            go_loopg [13, 14] k1 (fun kq v13 v14 w' => ∃ (x13_2 : Int) (x14_2 : Int), v13 = .int .i64 x13_2 ∧ v14 = .int .i64 x14_2 ∧ Aside0 (dancestudiolaw24_StaffColumns.l1 kq l0 a1 a2 (wrap64 (x7_1 + (t493.length : Int))) x8_1 t493 t497 x13_2 x14_2 = some r) ∧ Aside0 (kq ≤ k1) ∧ Aside0 (Kd.R k29 29 w' w.heap.size (fun _ => True) (.slice Ao27 t493.length co27) t493) ∧ Aside0 (Below w.heap.size w w'))
            case atStart => exact ⟨(0), (0), (by first | rfl | (simp; done) | (simp [*]; done)), (by first | rfl | (simp; done) | (simp [*]; done)), H', ⟨Nat.le_refl _⟩, ⟨by (with_reducible repeat (first | apply Kd.R_alloc | apply Kd.R_drewN | apply Kd.R_drew)); exact HO496.out⟩, ⟨hU HB.out⟩⟩
            case round =>
             clear H'
             try clear c1
             try clear c2
             try clear p2
             try clear c4
             try clear c4b0
             try clear c4b1
             try clear p6
             try clear c8
             try clear c8b0
             try clear c8b1
             try clear c9
             try clear c9b0
             try clear c11
             try clear c13
             try clear c13b0
             try clear c18
             try clear c18b0
             try clear c21
             try clear c21b0
             try clear c21b1
             try clear c22
             try clear c22b0
             try clear c22b1
             try clear c23
             try clear c23b0
             try clear c24
             try clear c24b0
             try clear p2
             obtain ⟨x13_2, x14_2, rfl, rfl, HA, HK2, HO_9, HB⟩ := hrel
             cases gk with
             | zero => exact absurd HA.out (by simp [dancestudiolaw24_StaffColumns.l1])
             | succ k2 =>
              have H := HA.out
              clear HA
              simp only [dancestudiolaw24_StaffColumns.l1] at H
              by_cases c28 : x14_2 < (l0.length : Int)
              ·rw [if_pos c28] at H
               have c28b0 : decide (x14_2 < (l0.length : Int)) = true := decide_eq_true c28
               clear c28
               by_cases c29 : 0 ≤ x14_2
               ·rw [if_pos c29] at H
                have c29b0 : decide (0 ≤ x14_2) = true := decide_eq_true c29
                clear c29
                by_cases c30 : ((rd_T29 l0 x14_2).f1) = x8_1
                ·rw [if_pos c30] at H
                 have c30b0 : (((rd_T29 l0 x14_2).f1) == x8_1) = true := beq_iff_eq.mpr c30
                 have c30b1 : (((rd_T29 l0 x14_2).f1) != x8_1) = false := bne_eq_false_iff_eq.mpr c30
                 clear c30
                 by_cases c31 : x13_2 ≥ (t493.length : Int)
                 ·rw [if_pos c31] at H
                  exact absurd H (by simp)
                 ·rw [if_neg c31] at H
                  have c31b0 : decide ((t493.length : Int) ≤ x13_2) = false := decide_eq_false c31
                  clear c31
                  by_cases c32 : 0 ≤ x13_2
                  ·rw [if_pos c32] at H
                   have c32b0 : decide (0 ≤ x13_2) = true := decide_eq_true c32
                   clear c32
                   by_cases c33 : x13_2 < (t493.length : Int)
                   ·rw [if_pos c33] at H
                    have c33b0 : decide (x13_2 < (t493.length : Int)) = true := decide_eq_true c33
                    clear c33
                    by_cases c34 : (!(((rd_T29 t493 x13_2).f0) == ((rd_T29 l0 x14_2).f0)) || (!(((rd_T29 t493 x13_2).f1) == ((rd_T29 l0 x14_2).f1)) || (!(((rd_T29 t493 x13_2).f2) == ((rd_T29 l0 x14_2).f2)) || (!(((rd_T29 t493 x13_2).f3) == ((rd_T29 l0 x14_2).f3)) || (!(((rd_T29 t493 x13_2).f4) == ((rd_T29 l0 x14_2).f4)) || (!(((rd_T29 t493 x13_2).f5) == ((rd_T29 l0 x14_2).f5)) || (!(((rd_T29 t493 x13_2).f6) == ((rd_T29 l0 x14_2).f6))))))))) = true
                    ·rw [if_pos c34] at H
                     exact absurd H (by simp)
                    ·rw [if_neg c34] at H
                     have c34b0 : (!(((rd_T29 t493 x13_2).f0) == ((rd_T29 l0 x14_2).f0)) || (!(((rd_T29 t493 x13_2).f1) == ((rd_T29 l0 x14_2).f1)) || (!(((rd_T29 t493 x13_2).f2) == ((rd_T29 l0 x14_2).f2)) || (!(((rd_T29 t493 x13_2).f3) == ((rd_T29 l0 x14_2).f3)) || (!(((rd_T29 t493 x13_2).f4) == ((rd_T29 l0 x14_2).f4)) || (!(((rd_T29 t493 x13_2).f5) == ((rd_T29 l0 x14_2).f5)) || (!(((rd_T29 t493 x13_2).f6) == ((rd_T29 l0 x14_2).f6))))))))) = false := by simpa using c34
                     clear c34
                     by_cases c35 : ((rd_T29 l0 x14_2).f2) ≤ a2
                     ·rw [if_pos c35] at H
                      have c35b0 : decide (((rd_T29 l0 x14_2).f2) ≤ a2) = true := decide_eq_true c35
                      clear c35
                      by_cases c36 : ((t497 == x14_2) != (decide (a2 < (wrap64 (((rd_T29 l0 x14_2).f2) + ((rd_T29 l0 x14_2).f3)))))) = true
                      ·rw [if_pos c36] at H
                       exact absurd H (by simp)
                      ·rw [if_neg c36] at H
                       have c36b0 : ((t497 == x14_2) != (decide (a2 < (wrap64 (((rd_T29 l0 x14_2).f2) + ((rd_T29 l0 x14_2).f3)))))) = false := by simpa using c36
                       (try (have c36b1 : decide ((t497 == x14_2) = (decide (a2 < (wrap64 (((rd_T29 l0 x14_2).f2) + ((rd_T29 l0 x14_2).f3)))))) = true := by simpa using c36))
                       (try (have c36b2 : ((t497 == x14_2) == (decide (a2 < (wrap64 (((rd_T29 l0 x14_2).f2) + ((rd_T29 l0 x14_2).f3)))))) = true := by simpa using c36))
                       clear c36
                       have H' := Aside0.mk H
                       clear H
                       have p499 : 0 ≤ (x14_2 : Int) := of_decide_eq_true (by first | (with_reducible assumption) | assumption)
                       have q499 : x14_2 < (l0.length : Int) := of_decide_eq_true (by first | (with_reducible assumption) | assumption)
                       obtain ⟨ad499, e499, hx499_0, hx499_1, hx499_2, hx499_3, hx499_4, hx499_5, hx499_6⟩ := at_T29 HR0.out x14_2 p499 q499
                       cases e499
                       replace hx499_0 := hbC HB hx499_0
                       replace hx499_1 := hbC HB hx499_1
                       replace hx499_2 := hbC HB hx499_2
                       replace hx499_3 := hbC HB hx499_3
                       replace hx499_4 := hbC HB hx499_4
                       replace hx499_5 := hbC HB hx499_5
                       replace hx499_6 := hbC HB hx499_6
                       replace p499 := eq_true p499
                       replace q499 := eq_true q499
                       have p500 : 0 ≤ (x13_2 : Int) := of_decide_eq_true (by first | (with_reducible assumption) | assumption)
                       have q500 : x13_2 < (t493.length : Int) := of_decide_eq_true (by first | (with_reducible assumption) | assumption)
                       obtain ⟨ad500, e500, hx500_0, hx500_1, hx500_2, hx500_3, hx500_4, hx500_5, hx500_6⟩ := at_T29 (Kd.R_reads' HO_9.out).2.2 x13_2 p500 q500
                       cases e500
                       replace p500 := eq_true p500
                       replace q500 := eq_true q500
                       have p501 : 0 ≤ (x14_2 : Int) := of_decide_eq_true (by first | (with_reducible assumption) | assumption)
                       have q501 : x14_2 < (l0.length : Int) := of_decide_eq_true (by first | (with_reducible assumption) | assumption)
                       obtain ⟨ad501, e501, hx501_0, hx501_1, hx501_2, hx501_3, hx501_4, hx501_5, hx501_6⟩ := at_T29 HR0.out x14_2 p501 q501
                       obtain rfl : ad499 = ad501 := (by injection e501)
                       replace hx501_0 := hbC HB hx501_0
                       replace hx501_1 := hbC HB hx501_1
                       replace hx501_2 := hbC HB hx501_2
                       replace hx501_3 := hbC HB hx501_3
                       replace hx501_4 := hbC HB hx501_4
                       replace hx501_5 := hbC HB hx501_5
                       replace hx501_6 := hbC HB hx501_6
                       replace p501 := eq_true p501
                       replace q501 := eq_true q501
                       have p502 : 0 ≤ (x14_2 : Int) := of_decide_eq_true (by first | (with_reducible assumption) | assumption)
                       have q502 : x14_2 < (l0.length : Int) := of_decide_eq_true (by first | (with_reducible assumption) | assumption)
                       obtain ⟨ad502, e502, hx502_0, hx502_1, hx502_2, hx502_3, hx502_4, hx502_5, hx502_6⟩ := at_T29 HR0.out x14_2 p502 q502
                       obtain rfl : ad499 = ad502 := (by injection e502)
                       replace hx502_0 := hbC HB hx502_0
                       replace hx502_1 := hbC HB hx502_1
                       replace hx502_2 := hbC HB hx502_2
                       replace hx502_3 := hbC HB hx502_3
                       replace hx502_4 := hbC HB hx502_4
                       replace hx502_5 := hbC HB hx502_5
                       replace hx502_6 := hbC HB hx502_6
                       replace p502 := eq_true p502
                       replace q502 := eq_true q502
                       have p503 : 0 ≤ (x14_2 : Int) := of_decide_eq_true (by first | (with_reducible assumption) | assumption)
                       have q503 : x14_2 < (l0.length : Int) := of_decide_eq_true (by first | (with_reducible assumption) | assumption)
                       obtain ⟨ad503, e503, hx503_0, hx503_1, hx503_2, hx503_3, hx503_4, hx503_5, hx503_6⟩ := at_T29 HR0.out x14_2 p503 q503
                       obtain rfl : ad499 = ad503 := (by injection e503)
                       replace hx503_0 := hbC HB hx503_0
                       replace hx503_1 := hbC HB hx503_1
                       replace hx503_2 := hbC HB hx503_2
                       replace hx503_3 := hbC HB hx503_3
                       replace hx503_4 := hbC HB hx503_4
                       replace hx503_5 := hbC HB hx503_5
                       replace hx503_6 := hbC HB hx503_6
                       replace p503 := eq_true p503
                       replace q503 := eq_true q503
                       have p504 : 0 ≤ (x14_2 : Int) := of_decide_eq_true (by first | (with_reducible assumption) | assumption)
                       have q504 : x14_2 < (l0.length : Int) := of_decide_eq_true (by first | (with_reducible assumption) | assumption)
                       obtain ⟨ad504, e504, hx504_0, hx504_1, hx504_2, hx504_3, hx504_4, hx504_5, hx504_6⟩ := at_T29 HR0.out x14_2 p504 q504
                       obtain rfl : ad499 = ad504 := (by injection e504)
                       replace hx504_0 := hbC HB hx504_0
                       replace hx504_1 := hbC HB hx504_1
                       replace hx504_2 := hbC HB hx504_2
                       replace hx504_3 := hbC HB hx504_3
                       replace hx504_4 := hbC HB hx504_4
                       replace hx504_5 := hbC HB hx504_5
                       replace hx504_6 := hbC HB hx504_6
                       replace p504 := eq_true p504
                       replace q504 := eq_true q504
                       go_wp2
                       repeat (go_quiet (fail); try go_wp2)
                       go_roundg k2
                       case measure => have := HK1.out; have := HK2.out; omega
                       case rel => exact ⟨(wrap64 (x13_2 + 1)), (wrap64 (x14_2 + 1)), (by first | rfl | (simp; done) | (simp [*]; done)), (by first | rfl | (simp; done) | (simp [*]; done)), H', ⟨by have := HK1.out; have := HK2.out; omega⟩, ⟨by (with_reducible repeat (first | apply Kd.R_alloc | apply Kd.R_drewN | apply Kd.R_drew)); exact HO_9.out⟩, ⟨hU HB.out⟩⟩
                     ·rw [if_neg c35] at H
                      have c35b0 : decide (((rd_T29 l0 x14_2).f2) ≤ a2) = false := decide_eq_false c35
                      clear c35
                      by_cases c37 : ((t497 == x14_2) != false) = true
                      ·rw [if_pos c37] at H
                       exact absurd H (by simp)
                      ·rw [if_neg c37] at H
                       have c37b0 : ((t497 == x14_2) != false) = false := by simpa using c37
                       (try (have c37b1 : decide ((t497 == x14_2) = false) = true := by simpa using c37))
                       (try (have c37b2 : ((t497 == x14_2) == false) = true := by simpa using c37))
                       clear c37
                       have H' := Aside0.mk H
                       clear H
                       have p499 : 0 ≤ (x14_2 : Int) := of_decide_eq_true (by first | (with_reducible assumption) | assumption)
                       have q499 : x14_2 < (l0.length : Int) := of_decide_eq_true (by first | (with_reducible assumption) | assumption)
                       obtain ⟨ad499, e499, hx499_0, hx499_1, hx499_2, hx499_3, hx499_4, hx499_5, hx499_6⟩ := at_T29 HR0.out x14_2 p499 q499
                       cases e499
                       replace hx499_0 := hbC HB hx499_0
                       replace hx499_1 := hbC HB hx499_1
                       replace hx499_2 := hbC HB hx499_2
                       replace hx499_3 := hbC HB hx499_3
                       replace hx499_4 := hbC HB hx499_4
                       replace hx499_5 := hbC HB hx499_5
                       replace hx499_6 := hbC HB hx499_6
                       replace p499 := eq_true p499
                       replace q499 := eq_true q499
                       have p500 : 0 ≤ (x13_2 : Int) := of_decide_eq_true (by first | (with_reducible assumption) | assumption)
                       have q500 : x13_2 < (t493.length : Int) := of_decide_eq_true (by first | (with_reducible assumption) | assumption)
                       obtain ⟨ad500, e500, hx500_0, hx500_1, hx500_2, hx500_3, hx500_4, hx500_5, hx500_6⟩ := at_T29 (Kd.R_reads' HO_9.out).2.2 x13_2 p500 q500
                       cases e500
                       replace p500 := eq_true p500
                       replace q500 := eq_true q500
                       have p501 : 0 ≤ (x14_2 : Int) := of_decide_eq_true (by first | (with_reducible assumption) | assumption)
                       have q501 : x14_2 < (l0.length : Int) := of_decide_eq_true (by first | (with_reducible assumption) | assumption)
                       obtain ⟨ad501, e501, hx501_0, hx501_1, hx501_2, hx501_3, hx501_4, hx501_5, hx501_6⟩ := at_T29 HR0.out x14_2 p501 q501
                       obtain rfl : ad499 = ad501 := (by injection e501)
                       replace hx501_0 := hbC HB hx501_0
                       replace hx501_1 := hbC HB hx501_1
                       replace hx501_2 := hbC HB hx501_2
                       replace hx501_3 := hbC HB hx501_3
                       replace hx501_4 := hbC HB hx501_4
                       replace hx501_5 := hbC HB hx501_5
                       replace hx501_6 := hbC HB hx501_6
                       replace p501 := eq_true p501
                       replace q501 := eq_true q501
                       have p502 : 0 ≤ (x14_2 : Int) := of_decide_eq_true (by first | (with_reducible assumption) | assumption)
                       have q502 : x14_2 < (l0.length : Int) := of_decide_eq_true (by first | (with_reducible assumption) | assumption)
                       obtain ⟨ad502, e502, hx502_0, hx502_1, hx502_2, hx502_3, hx502_4, hx502_5, hx502_6⟩ := at_T29 HR0.out x14_2 p502 q502
                       obtain rfl : ad499 = ad502 := (by injection e502)
                       replace hx502_0 := hbC HB hx502_0
                       replace hx502_1 := hbC HB hx502_1
                       replace hx502_2 := hbC HB hx502_2
                       replace hx502_3 := hbC HB hx502_3
                       replace hx502_4 := hbC HB hx502_4
                       replace hx502_5 := hbC HB hx502_5
                       replace hx502_6 := hbC HB hx502_6
                       replace p502 := eq_true p502
                       replace q502 := eq_true q502
                       go_wp2
                       repeat (go_quiet (fail); try go_wp2)
                       go_roundg k2
                       case measure => have := HK1.out; have := HK2.out; omega
                       case rel => exact ⟨(wrap64 (x13_2 + 1)), (wrap64 (x14_2 + 1)), (by first | rfl | (simp; done) | (simp [*]; done)), (by first | rfl | (simp; done) | (simp [*]; done)), H', ⟨by have := HK1.out; have := HK2.out; omega⟩, ⟨by (with_reducible repeat (first | apply Kd.R_alloc | apply Kd.R_drewN | apply Kd.R_drew)); exact HO_9.out⟩, ⟨hU HB.out⟩⟩
                   ·rw [if_neg c33] at H
                    exact absurd H (by simp)
                  ·rw [if_neg c32] at H
                   exact absurd H (by simp)
                ·rw [if_neg c30] at H
                 have c30b0 : (((rd_T29 l0 x14_2).f1) == x8_1) = false := beq_eq_false_iff_ne.mpr c30
                 have c30b1 : (((rd_T29 l0 x14_2).f1) != x8_1) = true := bne_iff_ne.mpr c30
                 have H' := Aside0.mk H
                 clear H
                 have p499 : 0 ≤ (x14_2 : Int) := of_decide_eq_true (by first | (with_reducible assumption) | assumption)
                 have q499 : x14_2 < (l0.length : Int) := of_decide_eq_true (by first | (with_reducible assumption) | assumption)
                 obtain ⟨ad499, e499, hx499_0, hx499_1, hx499_2, hx499_3, hx499_4, hx499_5, hx499_6⟩ := at_T29 HR0.out x14_2 p499 q499
                 cases e499
                 replace hx499_0 := hbC HB hx499_0
                 replace hx499_1 := hbC HB hx499_1
                 replace hx499_2 := hbC HB hx499_2
                 replace hx499_3 := hbC HB hx499_3
                 replace hx499_4 := hbC HB hx499_4
                 replace hx499_5 := hbC HB hx499_5
                 replace hx499_6 := hbC HB hx499_6
                 replace p499 := eq_true p499
                 replace q499 := eq_true q499
                 go_wp2
                 repeat (go_quiet (fail); try go_wp2)
                 go_roundg k2
                 case measure => have := HK1.out; have := HK2.out; omega
                 case rel => exact ⟨(x13_2), (wrap64 (x14_2 + 1)), (by first | rfl | (simp; done) | (simp [*]; done)), (by first | rfl | (simp; done) | (simp [*]; done)), H', ⟨by have := HK1.out; have := HK2.out; omega⟩, ⟨by (with_reducible repeat (first | apply Kd.R_alloc | apply Kd.R_drewN | apply Kd.R_drew)); exact HO_9.out⟩, ⟨hU HB.out⟩⟩
               ·rw [if_neg c29] at H
                exact absurd H (by simp)
              ·rw [if_neg c28] at H
               have c28b0 : decide (x14_2 < (l0.length : Int)) = false := decide_eq_false c28
               clear c28
               by_cases c38 : t497 ≥ 0
               ·rw [if_pos c38] at H
                have c38b0 : decide (0 ≤ t497) = true := decide_eq_true c38
                clear c38
                by_cases c39 : 0 ≤ t497
                ·rw [if_pos c39] at H
                 have c39b0 : decide (0 ≤ t497) = true := decide_eq_true c39
                 clear c39
                 by_cases c40 : t497 < (l0.length : Int)
                 ·rw [if_pos c40] at H
                  have c40b0 : decide (t497 < (l0.length : Int)) = true := decide_eq_true c40
                  clear c40
                  by_cases c41 : ((rd_T29 l0 t497).f1) = x8_1
                  ·rw [if_pos c41] at H
                   have c41b0 : (((rd_T29 l0 t497).f1) == x8_1) = true := beq_iff_eq.mpr c41
                   have c41b1 : (((rd_T29 l0 t497).f1) != x8_1) = false := bne_eq_false_iff_eq.mpr c41
                   clear c41
                   have H' := Aside0.mk H
                   clear H
                   have p505 : 0 ≤ (t497 : Int) := of_decide_eq_true (by first | (with_reducible assumption) | assumption)
                   have q505 : t497 < (l0.length : Int) := of_decide_eq_true (by first | (with_reducible assumption) | assumption)
                   obtain ⟨ad505, e505, hx505_0, hx505_1, hx505_2, hx505_3, hx505_4, hx505_5, hx505_6⟩ := at_T29 HR0.out t497 p505 q505
                   cases e505
                   replace hx505_0 := hbC HB hx505_0
                   replace hx505_1 := hbC HB hx505_1
                   replace hx505_2 := hbC HB hx505_2
                   replace hx505_3 := hbC HB hx505_3
                   replace hx505_4 := hbC HB hx505_4
                   replace hx505_5 := hbC HB hx505_5
                   replace hx505_6 := hbC HB hx505_6
                   replace p505 := eq_true p505
                   replace q505 := eq_true q505
                   go_wp2
                   repeat (go_quiet (fail); try go_wp2)
                   go_roundg k2
                   case measure => have := HK1.out; have := HK2.out; omega
                   case rel => exact ⟨((wrap64 (x7_1 + (t493.length : Int)))), (wrap64 (x8_1 + 1)), (by first | rfl | (simp; done) | (simp [*]; done)), (by first | rfl | (simp; done) | (simp [*]; done)), H', ⟨by have := HK1.out; have := HK2.out; omega⟩, ⟨hU HB.out⟩⟩
                  ·rw [if_neg c41] at H
                   exact absurd H (by simp)
                 ·rw [if_neg c40] at H
                  exact absurd H (by simp)
                ·rw [if_neg c39] at H
                 exact absurd H (by simp)
               ·rw [if_neg c38] at H
                have c38b0 : decide (0 ≤ t497) = false := decide_eq_false c38
                clear c38
                have H' := Aside0.mk H
                clear H
                go_wp2
                repeat (go_quiet (fail); try go_wp2)
                go_roundg k2
                case measure => have := HK1.out; have := HK2.out; omega
                case rel => exact ⟨((wrap64 (x7_1 + (t493.length : Int)))), (wrap64 (x8_1 + 1)), (by first | rfl | (simp; done) | (simp [*]; done)), (by first | rfl | (simp; done) | (simp [*]; done)), H', ⟨by have := HK1.out; have := HK2.out; omega⟩, ⟨hU HB.out⟩⟩
         ·rw [if_neg c22] at H
          exact absurd H (by simp)
        ·rw [if_neg c21] at H
         exact absurd H (by simp)
       ·rw [if_neg c18] at H
        have c18b0 : decide (x8_1 < 9) = false := decide_eq_false c18
        clear c18
        by_cases c42 : x7_1 = (l0.length : Int)
        ·rw [if_pos c42] at H
         have c42b0 : (x7_1 == (l0.length : Int)) = true := beq_iff_eq.mpr c42
         have c42b1 : (x7_1 != (l0.length : Int)) = false := bne_eq_false_iff_eq.mpr c42
         clear c42
         replace H := Option.bind_eq_some_iff.mp H
         obtain ⟨t506, A430, H⟩ := H
         replace H : (some t506) = some r := H
         have A43 := Aside0.mk A430
         clear A430
         obtain rfl := Option.some.inj H
         go_wp2_with (first | (go_at_call 22; (with_reducible refine (dancestudiolaw24_awake.calls k1  t506 _ A43.out).mono ?_); rintro e w44 ⟨rfl, hb⟩; have n0_ := Aside0.mk (below_step (hU HB.out) hb); clear HB; have HB := n0_; clear n0_; (try clear hb); (try clear hb2); (try clear hk); (try clear hi)))
         repeat (go_quiet (first | (go_at_call 22; (with_reducible refine (dancestudiolaw24_awake.calls k1  t506 _ A43.out).mono ?_); rintro e w44 ⟨rfl, hb⟩; have n0_ := Aside0.mk (below_step (hU HB.out) hb); clear HB; have HB := n0_; clear n0_; (try clear hb); (try clear hb2); (try clear hk); (try clear hi))); try go_wp2_with (first | (go_at_call 22; (with_reducible refine (dancestudiolaw24_awake.calls k1  t506 _ A43.out).mono ?_); rintro e w44 ⟨rfl, hb⟩; have n0_ := Aside0.mk (below_step (hU HB.out) hb); clear HB; have HB := n0_; clear n0_; (try clear hb); (try clear hb2); (try clear hk); (try clear hi))))
         go_ret
         exact ⟨by first | rfl | (simp [errW_none, errW_some] <;> rfl) | (simp [*, errW_none, errW_some] <;> rfl), hU HB.out⟩
        ·rw [if_neg c42] at H
         exact absurd H (by simp)
  ·rw [if_neg c8] at H
   have c8b0 : (t490 == 0) = false := beq_eq_false_iff_ne.mpr c8
   have c8b1 : (t490 != 0) = true := bne_iff_ne.mpr c8
   replace H := Option.bind_eq_some_iff.mp H
   obtain ⟨t507, A450, H⟩ := H
   replace H : (some t507) = some r := H
   have A45 := Aside0.mk A450
   clear A450
   obtain rfl := Option.some.inj H
   go_enter Try.func11, Try.ntmps11
   go_wp2_with (first | (go_at_call 20; (with_reducible refine (staff_Check.calls _ _ l0 a1 t490 _ ?side1 ?side2 A7.out).mono ?_); (case side1 => repeat (first | exact HR0.out | (with_reducible refine Kd.C_alloc ?_ _) | (with_reducible refine Kd.C_drewN ?_ _) | (with_reducible refine Kd.C_drew ?_))); (case side2 => exact HC0.out); rintro e w46 ⟨rfl, hb⟩; have n0_ := Aside0.mk (below_step (hU HB.out) hb); clear HB; have HB := n0_; clear n0_; (try clear hb); (try clear hb2); (try clear hk); (try clear hi)) | (go_at_call 22; (with_reducible refine (dancestudiolaw24_awake.calls k  t507 _ A45.out).mono ?_); rintro e w47 ⟨rfl, hb⟩; have n0_ := Aside0.mk (below_step (hU HB.out) hb); clear HB; have HB := n0_; clear n0_; (try clear hb); (try clear hb2); (try clear hk); (try clear hi)))
   repeat (go_quiet (first | (go_at_call 20; (with_reducible refine (staff_Check.calls _ _ l0 a1 t490 _ ?side1 ?side2 A7.out).mono ?_); (case side1 => repeat (first | exact HR0.out | (with_reducible refine Kd.C_alloc ?_ _) | (with_reducible refine Kd.C_drewN ?_ _) | (with_reducible refine Kd.C_drew ?_))); (case side2 => exact HC0.out); rintro e w46 ⟨rfl, hb⟩; have n0_ := Aside0.mk (below_step (hU HB.out) hb); clear HB; have HB := n0_; clear n0_; (try clear hb); (try clear hb2); (try clear hk); (try clear hi)) | (go_at_call 22; (with_reducible refine (dancestudiolaw24_awake.calls k  t507 _ A45.out).mono ?_); rintro e w47 ⟨rfl, hb⟩; have n0_ := Aside0.mk (below_step (hU HB.out) hb); clear HB; have HB := n0_; clear n0_; (try clear hb); (try clear hb2); (try clear hk); (try clear hi))); try go_wp2_with (first | (go_at_call 20; (with_reducible refine (staff_Check.calls _ _ l0 a1 t490 _ ?side1 ?side2 A7.out).mono ?_); (case side1 => repeat (first | exact HR0.out | (with_reducible refine Kd.C_alloc ?_ _) | (with_reducible refine Kd.C_drewN ?_ _) | (with_reducible refine Kd.C_drew ?_))); (case side2 => exact HC0.out); rintro e w46 ⟨rfl, hb⟩; have n0_ := Aside0.mk (below_step (hU HB.out) hb); clear HB; have HB := n0_; clear n0_; (try clear hb); (try clear hb2); (try clear hk); (try clear hi)) | (go_at_call 22; (with_reducible refine (dancestudiolaw24_awake.calls k  t507 _ A45.out).mono ?_); rintro e w47 ⟨rfl, hb⟩; have n0_ := Aside0.mk (below_step (hU HB.out) hb); clear HB; have HB := n0_; clear n0_; (try clear hb); (try clear hb2); (try clear hk); (try clear hi))))
   go_ret
   exact ⟨by first | rfl | (simp [errW_none, errW_some] <;> rfl) | (simp [*, errW_none, errW_some] <;> rfl), hU HB.out⟩

end Go.Proofs.Ytdilndbanhianaa.P

-- Written by a program of this session (myprint.py over the kit's print): the Go functions of the seat as Lean functions, and what their calls do.
import Derived.Test.YtdilndbanhianaaVReg
import Derived.Test.YtdilndbanhianaaVMA
import Derived.Test.YtdilndbanhianaaVMB
import Derived.Test.YtdilndbanhianaaP43
import Derived.Test.YtdilndbanhianaaP44
import Derived.Test.YtdilndbanhianaaP45
import Derived.Test.YtdilndbanhianaaP46
namespace Go.Proofs.Ytdilndbanhianaa.P
open Go.RowKit Go.Proofs.YtdilndbanhianaaW.PrintWords Go.Proofs.YtdilndbanhianaaW.PrintLast Go.Proofs.YtdilndbanhianaaW.PrintMore
attribute [local go_sem] max2_int min2_int max_two min_two max_three min_three max_four min_four   -- for this text's walks alone
set_option linter.unusedVariables false
set_option linter.unusedSimpArgs false

/-! ### dancestudioref26_Check: function 41 -/
mutual
def dancestudioref26_Check.l0 : Nat → List (S29) → Int → List (S61) → Int → Option (Int)
 | 0, _, _, _, _ => none
 | k + 1, x0, x1, x2, x8 => if x8 < (x2.length : Int) then (if 0 ≤ x8 then (if ((rd_T61 x2 x8).f0.f0) < 0 then (some 1) else (if ((rd_T61 x2 x8).f0.f0) ≥ ((rd_T61 x2 x8).f0.f1) then (some 1) else (if ((rd_T61 x2 x8).f0.f1) > x1 then (some 1) else (if ((rd_T61 x2 x8).f1) < 2 then (some 1) else (if ((rd_T61 x2 x8).f1) > 16 then (some 1) else (dancestudioref26_Check.l0 k x0 x1 x2 (wrap64 (x8 + 1)))))))) else (none)) else (dancestudioref26_Check.l1 k x0 x1 x2 1)
def dancestudioref26_Check.l1 : Nat → List (S29) → Int → List (S61) → Int → Option (Int)
 | 0, _, _, _, _ => none
 | k + 1, x0, x1, x2, x9 => if x9 < (x2.length : Int) then (if 0 ≤ x9 then (if 0 ≤ (wrap64 (x9 - 1)) then (if (wrap64 (x9 - 1)) < (x2.length : Int) then (if ((rd_T61 x2 x9).f0.f0) < ((rd_T61 x2 (wrap64 (x9 - 1))).f0.f1) then (some 5) else (dancestudioref26_Check.l1 k x0 x1 x2 (wrap64 (x9 + 1)))) else (none)) else (none)) else (none)) else (dancestudioref26_Check.l2 k x0 x1 x2 0)
def dancestudioref26_Check.l2 : Nat → List (S29) → Int → List (S61) → Int → Option (Int)
 | 0, _, _, _, _ => none
 | k + 1, x0, x1, x2, x10 => if x10 < (x2.length : Int) then (if 0 ≤ x10 then ((dancestudioref26_cut.f k x0 ((rd_T61 x2 x10).f0.f0)).bind fun t798 => (if t798 = true then ((dancestudioref26_cut.f k x0 ((rd_T61 x2 x10).f0.f1)).bind fun t800 => (if t800 = true then (dancestudioref26_Check.l2 k x0 x1 x2 (wrap64 (x10 + 1))) else (some 17))) else (some 17))) else (none)) else ((dancestudioref26_Sections.f k x1 x2).bind fun t801 => ((dancestudioref26_total.f k t801).bind fun t804 => (if t804 > 8192 then (some 1) else ((dancestudioref26_performed.f k x0 t801).bind fun t805 => (if (t805.length : Int) > 256 then (some 3) else (some 0))))))
end
def dancestudioref26_Check.f (k : Nat) (l0 : List (S29)) (a1 : Int) (l2 : List (S61)) : Option (Int) := (dancestudioref24_Check.f k l0 a1).bind fun t788 => (if t788 = 0 then (if (l2.length : Int) > 16 then (some 3) else (dancestudioref26_Check.l0 k l0 a1 l2 0)) else (some t788))
theorem dancestudioref26_Check.mono_l : ∀ k, (∀ y0 y1 y2 y3, LeO (dancestudioref26_Check.l0 k y0 y1 y2 y3) (dancestudioref26_Check.l0 (k + 1) y0 y1 y2 y3)) ∧ (∀ y0 y1 y2 y3, LeO (dancestudioref26_Check.l1 k y0 y1 y2 y3) (dancestudioref26_Check.l1 (k + 1) y0 y1 y2 y3)) ∧ (∀ y0 y1 y2 y3, LeO (dancestudioref26_Check.l2 k y0 y1 y2 y3) (dancestudioref26_Check.l2 (k + 1) y0 y1 y2 y3))
 | 0 => ⟨fun _ _ _ _ r h => by simp [dancestudioref26_Check.l0] at h, fun _ _ _ _ r h => by simp [dancestudioref26_Check.l1] at h, fun _ _ _ _ r h => by simp [dancestudioref26_Check.l2] at h⟩
 | k + 1 => by
  obtain ⟨ih0, ih1, ih2⟩ := dancestudioref26_Check.mono_l k
  refine ⟨?_, ?_, ?_⟩
  ·intro y0 y1 y2 y3
   unfold dancestudioref26_Check.l0
   repeat' first
   | (with_reducible exact ih0 _ _ _ _)
   | (with_reducible exact ih1 _ _ _ _)
   | (with_reducible exact ih2 _ _ _ _)
   | (with_reducible exact dancestudioref24_Check.mono _ _ _)
   | (with_reducible exact dancestudioref26_Sections.mono _ _ _)
   | (with_reducible exact dancestudioref26_cut.mono _ _ _)
   | (with_reducible exact dancestudioref26_performed.mono _ _ _)
   | (with_reducible exact dancestudioref26_total.mono _ _)
   | (with_reducible exact LeO.refl _)
   | (with_reducible exact LeO.none _)
   | (with_reducible refine LeO.ite ?_ ?_)
   | (with_reducible refine LeO.bind ?_ (fun _ => ?_))
   | exact ih0 _ _ _ _
   | exact ih1 _ _ _ _
   | exact ih2 _ _ _ _
   | exact dancestudioref24_Check.mono _ _ _
   | exact dancestudioref26_Sections.mono _ _ _
   | exact dancestudioref26_cut.mono _ _ _
   | exact dancestudioref26_performed.mono _ _ _
   | exact dancestudioref26_total.mono _ _
   | exact LeO.none _
   | refine LeO.ite ?_ ?_
   | refine LeO.bind ?_ (fun _ => ?_)
  ·intro y0 y1 y2 y3
   unfold dancestudioref26_Check.l1
   repeat' first
   | (with_reducible exact ih0 _ _ _ _)
   | (with_reducible exact ih1 _ _ _ _)
   | (with_reducible exact ih2 _ _ _ _)
   | (with_reducible exact dancestudioref24_Check.mono _ _ _)
   | (with_reducible exact dancestudioref26_Sections.mono _ _ _)
   | (with_reducible exact dancestudioref26_cut.mono _ _ _)
   | (with_reducible exact dancestudioref26_performed.mono _ _ _)
   | (with_reducible exact dancestudioref26_total.mono _ _)
   | (with_reducible exact LeO.refl _)
   | (with_reducible exact LeO.none _)
   | (with_reducible refine LeO.ite ?_ ?_)
   | (with_reducible refine LeO.bind ?_ (fun _ => ?_))
   | exact ih0 _ _ _ _
   | exact ih1 _ _ _ _
   | exact ih2 _ _ _ _
   | exact dancestudioref24_Check.mono _ _ _
   | exact dancestudioref26_Sections.mono _ _ _
   | exact dancestudioref26_cut.mono _ _ _
   | exact dancestudioref26_performed.mono _ _ _
   | exact dancestudioref26_total.mono _ _
   | exact LeO.none _
   | refine LeO.ite ?_ ?_
   | refine LeO.bind ?_ (fun _ => ?_)
  ·intro y0 y1 y2 y3
   unfold dancestudioref26_Check.l2
   repeat' first
   | (with_reducible exact ih0 _ _ _ _)
   | (with_reducible exact ih1 _ _ _ _)
   | (with_reducible exact ih2 _ _ _ _)
   | (with_reducible exact dancestudioref24_Check.mono _ _ _)
   | (with_reducible exact dancestudioref26_Sections.mono _ _ _)
   | (with_reducible exact dancestudioref26_cut.mono _ _ _)
   | (with_reducible exact dancestudioref26_performed.mono _ _ _)
   | (with_reducible exact dancestudioref26_total.mono _ _)
   | (with_reducible exact LeO.refl _)
   | (with_reducible exact LeO.none _)
   | (with_reducible refine LeO.ite ?_ ?_)
   | (with_reducible refine LeO.bind ?_ (fun _ => ?_))
   | exact ih0 _ _ _ _
   | exact ih1 _ _ _ _
   | exact ih2 _ _ _ _
   | exact dancestudioref24_Check.mono _ _ _
   | exact dancestudioref26_Sections.mono _ _ _
   | exact dancestudioref26_cut.mono _ _ _
   | exact dancestudioref26_performed.mono _ _ _
   | exact dancestudioref26_total.mono _ _
   | exact LeO.none _
   | refine LeO.ite ?_ ?_
   | refine LeO.bind ?_ (fun _ => ?_)
theorem dancestudioref26_Check.mono : ∀ a0 a1 a2 k, LeO (dancestudioref26_Check.f k a0 a1 a2) (dancestudioref26_Check.f (k + 1) a0 a1 a2) := by
 intro a0 a1 a2 k
 obtain ⟨ih0, ih1, ih2⟩ := dancestudioref26_Check.mono_l k
 unfold dancestudioref26_Check.f
 repeat' first
   | (with_reducible exact ih0 _ _ _ _)
   | (with_reducible exact ih1 _ _ _ _)
   | (with_reducible exact ih2 _ _ _ _)
   | (with_reducible exact dancestudioref24_Check.mono _ _ _)
   | (with_reducible exact dancestudioref26_Sections.mono _ _ _)
   | (with_reducible exact dancestudioref26_cut.mono _ _ _)
   | (with_reducible exact dancestudioref26_performed.mono _ _ _)
   | (with_reducible exact dancestudioref26_total.mono _ _)
   | (with_reducible exact LeO.refl _)
   | (with_reducible exact LeO.none _)
   | (with_reducible refine LeO.ite ?_ ?_)
   | (with_reducible refine LeO.bind ?_ (fun _ => ?_))
   | exact ih0 _ _ _ _
   | exact ih1 _ _ _ _
   | exact ih2 _ _ _ _
   | exact dancestudioref24_Check.mono _ _ _
   | exact dancestudioref26_Sections.mono _ _ _
   | exact dancestudioref26_cut.mono _ _ _
   | exact dancestudioref26_performed.mono _ _ _
   | exact dancestudioref26_total.mono _ _
   | exact LeO.none _
   | refine LeO.ite ?_ ?_
   | refine LeO.bind ?_ (fun _ => ?_)
set_option maxHeartbeats 8000000 in
set_option maxRecDepth 100000 in
theorem dancestudioref26_Check.calls (k : Nat) (A0 : Option Addr) (c0 : Nat) (l0 : List (S29)) (a1 : Int) (A2 : Option Addr) (c2 : Nat) (l2 : List (S61)) (r : Int) (w : World) (hr0 : Kd.C k29 w A0 l0.length l0) (hc0 : l0.length ≤ c0) (hr2 : Kd.C k61 w A2 l2.length l2) (hc2 : l2.length ≤ c2) (h : dancestudioref26_Check.f k l0 a1 l2 = some r) :
  Calls Try.prog 41 #[.slice A0 l0.length c0, .int .i64 a1, .slice A2 l2.length c2] w fun e w' => e = .returned (.int .i64 r) ∧ Below w.heap.size w w' := by
 have HR0 := Aside0.mk hr0
 have HC0 := Aside0.mk hc0
 clear hr0 hc0
 have HR2 := Aside0.mk hr2
 have HC2 := Aside0.mk hc2
 clear hr2 hc2
 have HB := Aside0.mk (Below.refl w.heap.size w)
 have H : ((dancestudioref24_Check.f k l0 a1).bind fun t788 => (if t788 = 0 then (if (l2.length : Int) > 16 then (some 3) else (dancestudioref26_Check.l0 k l0 a1 l2 0)) else (some t788))) = some r := h
 clear h
 replace H := Option.bind_eq_some_iff.mp H
 obtain ⟨t788, A40, H⟩ := H
 replace H : (if t788 = 0 then (if (l2.length : Int) > 16 then (some 3) else (dancestudioref26_Check.l0 k l0 a1 l2 0)) else (some t788)) = some r := H
 have A4 := Aside0.mk A40
 clear A40
 by_cases c5 : t788 = 0
 ·rw [if_pos c5] at H
  have c5b0 : (t788 == 0) = true := beq_iff_eq.mpr c5
  have c5b1 : (t788 != 0) = false := bne_eq_false_iff_eq.mpr c5
  clear c5
  by_cases c6 : (l2.length : Int) > 16
  ·rw [if_pos c6] at H
   have c6b0 : decide (16 < (l2.length : Int)) = true := decide_eq_true c6
   have c6b1 : decide (16 < l2.length) = true := decide_eq_true (by omega)
   clear c6
   obtain rfl := Option.some.inj H
   go_enter Try.func41, Try.ntmps41
   go_wp2_with (first | (go_at_call 21; (with_reducible refine (dancestudioref24_Check.calls k _ _ l0 a1 t788 _ ?side1 ?side2 A4.out).mono ?_); (case side1 => repeat (first | exact HR0.out | (with_reducible refine Kd.C_alloc ?_ _) | (with_reducible refine Kd.C_drewN ?_ _) | (with_reducible refine Kd.C_drew ?_))); (case side2 => exact HC0.out); rintro e w7 ⟨rfl, hb⟩; have n0_ := Aside0.mk (below_step (hU HB.out) hb); clear HB; have HB := n0_; clear n0_; (try clear hb); (try clear hb2); (try clear hk); (try clear hi)))
   repeat (go_quiet (first | (go_at_call 21; (with_reducible refine (dancestudioref24_Check.calls k _ _ l0 a1 t788 _ ?side1 ?side2 A4.out).mono ?_); (case side1 => repeat (first | exact HR0.out | (with_reducible refine Kd.C_alloc ?_ _) | (with_reducible refine Kd.C_drewN ?_ _) | (with_reducible refine Kd.C_drew ?_))); (case side2 => exact HC0.out); rintro e w7 ⟨rfl, hb⟩; have n0_ := Aside0.mk (below_step (hU HB.out) hb); clear HB; have HB := n0_; clear n0_; (try clear hb); (try clear hb2); (try clear hk); (try clear hi))); try go_wp2_with (first | (go_at_call 21; (with_reducible refine (dancestudioref24_Check.calls k _ _ l0 a1 t788 _ ?side1 ?side2 A4.out).mono ?_); (case side1 => repeat (first | exact HR0.out | (with_reducible refine Kd.C_alloc ?_ _) | (with_reducible refine Kd.C_drewN ?_ _) | (with_reducible refine Kd.C_drew ?_))); (case side2 => exact HC0.out); rintro e w7 ⟨rfl, hb⟩; have n0_ := Aside0.mk (below_step (hU HB.out) hb); clear HB; have HB := n0_; clear n0_; (try clear hb); (try clear hb2); (try clear hk); (try clear hi))))
   go_ret
   exact ⟨by first | rfl | (simp [errW_none, errW_some] <;> rfl) | (simp [*, errW_none, errW_some] <;> rfl), hU HB.out⟩
  ·rw [if_neg c6] at H
   have c6b0 : decide (16 < (l2.length : Int)) = false := decide_eq_false c6
   have c6b1 : decide (16 < l2.length) = false := decide_eq_false (by omega)
   clear c6
   have H' := Aside0.mk H
   clear H
   go_enter Try.func41, Try.ntmps41
   go_wp2_with (first | (go_at_call 21; (with_reducible refine (dancestudioref24_Check.calls k _ _ l0 a1 t788 _ ?side1 ?side2 A4.out).mono ?_); (case side1 => repeat (first | exact HR0.out | (with_reducible refine Kd.C_alloc ?_ _) | (with_reducible refine Kd.C_drewN ?_ _) | (with_reducible refine Kd.C_drew ?_))); (case side2 => exact HC0.out); rintro e w8 ⟨rfl, hb⟩; have n0_ := Aside0.mk (below_step (hU HB.out) hb); clear HB; have HB := n0_; clear n0_; (try clear hb); (try clear hb2); (try clear hk); (try clear hi)))
   repeat (go_quiet (first | (go_at_call 21; (with_reducible refine (dancestudioref24_Check.calls k _ _ l0 a1 t788 _ ?side1 ?side2 A4.out).mono ?_); (case side1 => repeat (first | exact HR0.out | (with_reducible refine Kd.C_alloc ?_ _) | (with_reducible refine Kd.C_drewN ?_ _) | (with_reducible refine Kd.C_drew ?_))); (case side2 => exact HC0.out); rintro e w8 ⟨rfl, hb⟩; have n0_ := Aside0.mk (below_step (hU HB.out) hb); clear HB; have HB := n0_; clear n0_; (try clear hb); (try clear hb2); (try clear hk); (try clear hi))); try go_wp2_with (first | (go_at_call 21; (with_reducible refine (dancestudioref24_Check.calls k _ _ l0 a1 t788 _ ?side1 ?side2 A4.out).mono ?_); (case side1 => repeat (first | exact HR0.out | (with_reducible refine Kd.C_alloc ?_ _) | (with_reducible refine Kd.C_drewN ?_ _) | (with_reducible refine Kd.C_drew ?_))); (case side2 => exact HC0.out); rintro e w8 ⟨rfl, hb⟩; have n0_ := Aside0.mk (below_step (hU HB.out) hb); clear HB; have HB := n0_; clear n0_; (try clear hb); (try clear hb2); (try clear hk); (try clear hi))))
   go_loopg [8] k (fun kq v8 w' => ∃ (x8_1 : Int), v8 = .int .i64 x8_1 ∧ Aside0 (dancestudioref26_Check.l0 kq l0 a1 l2 x8_1 = some r) ∧ Aside0 (kq ≤ k) ∧ Aside0 (Below w.heap.size w w'))
   case atStart => exact ⟨(0), (by first | rfl | (simp; done) | (simp [*]; done)), H', ⟨Nat.le_refl _⟩, ⟨hU HB.out⟩⟩
   case round =>
    clear H'
    try clear c2
    try clear p2
    try clear c4
    try clear c5
    try clear c5b0
    try clear c5b1
    try clear c6
    try clear c6b0
    try clear c6b1
    obtain ⟨x8_1, rfl, HA, HK1, HB⟩ := hrel
    cases gk with
    | zero => exact absurd HA.out (by simp [dancestudioref26_Check.l0])
    | succ k1 =>
     have H := HA.out
     clear HA
     simp only [dancestudioref26_Check.l0] at H
     by_cases c9 : x8_1 < (l2.length : Int)
     ·rw [if_pos c9] at H
      have c9b0 : decide (x8_1 < (l2.length : Int)) = true := decide_eq_true c9
      clear c9
      by_cases c10 : 0 ≤ x8_1
      ·rw [if_pos c10] at H
       have c10b0 : decide (0 ≤ x8_1) = true := decide_eq_true c10
       clear c10
       by_cases c11 : ((rd_T61 l2 x8_1).f0.f0) < 0
       ·rw [if_pos c11] at H
        have c11b0 : decide (((rd_T61 l2 x8_1).f0.f0) < 0) = true := decide_eq_true c11
        clear c11
        obtain rfl := Option.some.inj H
        have p789 : 0 ≤ (x8_1 : Int) := of_decide_eq_true (by first | (with_reducible assumption) | assumption)
        have q789 : x8_1 < (l2.length : Int) := of_decide_eq_true (by first | (with_reducible assumption) | assumption)
        obtain ⟨ad789, e789, hx789_0, hx789_1, hx789_2⟩ := at_T61 HR2.out x8_1 p789 q789
        cases e789
        replace hx789_0 := hbC HB hx789_0
        replace hx789_1 := hbC HB hx789_1
        replace hx789_2 := hbC HB hx789_2
        replace p789 := eq_true p789
        replace q789 := eq_true q789
        go_wp2
        repeat (go_quiet (fail); try go_wp2)
        go_ret
        exact ⟨by first | rfl | (simp [errW_none, errW_some] <;> rfl) | (simp [*, errW_none, errW_some] <;> rfl), hU HB.out⟩
       ·rw [if_neg c11] at H
        have c11b0 : decide (((rd_T61 l2 x8_1).f0.f0) < 0) = false := decide_eq_false c11
        clear c11
        by_cases c12 : ((rd_T61 l2 x8_1).f0.f0) ≥ ((rd_T61 l2 x8_1).f0.f1)
        ·rw [if_pos c12] at H
         have c12b0 : decide (((rd_T61 l2 x8_1).f0.f1) ≤ ((rd_T61 l2 x8_1).f0.f0)) = true := decide_eq_true c12
         clear c12
         obtain rfl := Option.some.inj H
         have p789 : 0 ≤ (x8_1 : Int) := of_decide_eq_true (by first | (with_reducible assumption) | assumption)
         have q789 : x8_1 < (l2.length : Int) := of_decide_eq_true (by first | (with_reducible assumption) | assumption)
         obtain ⟨ad789, e789, hx789_0, hx789_1, hx789_2⟩ := at_T61 HR2.out x8_1 p789 q789
         cases e789
         replace hx789_0 := hbC HB hx789_0
         replace hx789_1 := hbC HB hx789_1
         replace hx789_2 := hbC HB hx789_2
         replace p789 := eq_true p789
         replace q789 := eq_true q789
         have p790 : 0 ≤ (x8_1 : Int) := of_decide_eq_true (by first | (with_reducible assumption) | assumption)
         have q790 : x8_1 < (l2.length : Int) := of_decide_eq_true (by first | (with_reducible assumption) | assumption)
         obtain ⟨ad790, e790, hx790_0, hx790_1, hx790_2⟩ := at_T61 HR2.out x8_1 p790 q790
         obtain rfl : ad789 = ad790 := (by injection e790)
         replace hx790_0 := hbC HB hx790_0
         replace hx790_1 := hbC HB hx790_1
         replace hx790_2 := hbC HB hx790_2
         replace p790 := eq_true p790
         replace q790 := eq_true q790
         have p791 : 0 ≤ (x8_1 : Int) := of_decide_eq_true (by first | (with_reducible assumption) | assumption)
         have q791 : x8_1 < (l2.length : Int) := of_decide_eq_true (by first | (with_reducible assumption) | assumption)
         obtain ⟨ad791, e791, hx791_0, hx791_1, hx791_2⟩ := at_T61 HR2.out x8_1 p791 q791
         obtain rfl : ad789 = ad791 := (by injection e791)
         replace hx791_0 := hbC HB hx791_0
         replace hx791_1 := hbC HB hx791_1
         replace hx791_2 := hbC HB hx791_2
         replace p791 := eq_true p791
         replace q791 := eq_true q791
         go_wp2
         repeat (go_quiet (fail); try go_wp2)
         go_ret
         exact ⟨by first | rfl | (simp [errW_none, errW_some] <;> rfl) | (simp [*, errW_none, errW_some] <;> rfl), hU HB.out⟩
        ·rw [if_neg c12] at H
         have c12b0 : decide (((rd_T61 l2 x8_1).f0.f1) ≤ ((rd_T61 l2 x8_1).f0.f0)) = false := decide_eq_false c12
         clear c12
         by_cases c13 : ((rd_T61 l2 x8_1).f0.f1) > a1
         ·rw [if_pos c13] at H
          have c13b0 : decide (a1 < ((rd_T61 l2 x8_1).f0.f1)) = true := decide_eq_true c13
          clear c13
          obtain rfl := Option.some.inj H
          have p789 : 0 ≤ (x8_1 : Int) := of_decide_eq_true (by first | (with_reducible assumption) | assumption)
          have q789 : x8_1 < (l2.length : Int) := of_decide_eq_true (by first | (with_reducible assumption) | assumption)
          obtain ⟨ad789, e789, hx789_0, hx789_1, hx789_2⟩ := at_T61 HR2.out x8_1 p789 q789
          cases e789
          replace hx789_0 := hbC HB hx789_0
          replace hx789_1 := hbC HB hx789_1
          replace hx789_2 := hbC HB hx789_2
          replace p789 := eq_true p789
          replace q789 := eq_true q789
          have p790 : 0 ≤ (x8_1 : Int) := of_decide_eq_true (by first | (with_reducible assumption) | assumption)
          have q790 : x8_1 < (l2.length : Int) := of_decide_eq_true (by first | (with_reducible assumption) | assumption)
          obtain ⟨ad790, e790, hx790_0, hx790_1, hx790_2⟩ := at_T61 HR2.out x8_1 p790 q790
          obtain rfl : ad789 = ad790 := (by injection e790)
          replace hx790_0 := hbC HB hx790_0
          replace hx790_1 := hbC HB hx790_1
          replace hx790_2 := hbC HB hx790_2
          replace p790 := eq_true p790
          replace q790 := eq_true q790
          have p791 : 0 ≤ (x8_1 : Int) := of_decide_eq_true (by first | (with_reducible assumption) | assumption)
          have q791 : x8_1 < (l2.length : Int) := of_decide_eq_true (by first | (with_reducible assumption) | assumption)
          obtain ⟨ad791, e791, hx791_0, hx791_1, hx791_2⟩ := at_T61 HR2.out x8_1 p791 q791
          obtain rfl : ad789 = ad791 := (by injection e791)
          replace hx791_0 := hbC HB hx791_0
          replace hx791_1 := hbC HB hx791_1
          replace hx791_2 := hbC HB hx791_2
          replace p791 := eq_true p791
          replace q791 := eq_true q791
          have p792 : 0 ≤ (x8_1 : Int) := of_decide_eq_true (by first | (with_reducible assumption) | assumption)
          have q792 : x8_1 < (l2.length : Int) := of_decide_eq_true (by first | (with_reducible assumption) | assumption)
          obtain ⟨ad792, e792, hx792_0, hx792_1, hx792_2⟩ := at_T61 HR2.out x8_1 p792 q792
          obtain rfl : ad789 = ad792 := (by injection e792)
          replace hx792_0 := hbC HB hx792_0
          replace hx792_1 := hbC HB hx792_1
          replace hx792_2 := hbC HB hx792_2
          replace p792 := eq_true p792
          replace q792 := eq_true q792
          go_wp2
          repeat (go_quiet (fail); try go_wp2)
          go_ret
          exact ⟨by first | rfl | (simp [errW_none, errW_some] <;> rfl) | (simp [*, errW_none, errW_some] <;> rfl), hU HB.out⟩
         ·rw [if_neg c13] at H
          have c13b0 : decide (a1 < ((rd_T61 l2 x8_1).f0.f1)) = false := decide_eq_false c13
          clear c13
          by_cases c14 : ((rd_T61 l2 x8_1).f1) < 2
          ·rw [if_pos c14] at H
           have c14b0 : decide (((rd_T61 l2 x8_1).f1) < 2) = true := decide_eq_true c14
           clear c14
           obtain rfl := Option.some.inj H
           have p789 : 0 ≤ (x8_1 : Int) := of_decide_eq_true (by first | (with_reducible assumption) | assumption)
           have q789 : x8_1 < (l2.length : Int) := of_decide_eq_true (by first | (with_reducible assumption) | assumption)
           obtain ⟨ad789, e789, hx789_0, hx789_1, hx789_2⟩ := at_T61 HR2.out x8_1 p789 q789
           cases e789
           replace hx789_0 := hbC HB hx789_0
           replace hx789_1 := hbC HB hx789_1
           replace hx789_2 := hbC HB hx789_2
           replace p789 := eq_true p789
           replace q789 := eq_true q789
           have p790 : 0 ≤ (x8_1 : Int) := of_decide_eq_true (by first | (with_reducible assumption) | assumption)
           have q790 : x8_1 < (l2.length : Int) := of_decide_eq_true (by first | (with_reducible assumption) | assumption)
           obtain ⟨ad790, e790, hx790_0, hx790_1, hx790_2⟩ := at_T61 HR2.out x8_1 p790 q790
           obtain rfl : ad789 = ad790 := (by injection e790)
           replace hx790_0 := hbC HB hx790_0
           replace hx790_1 := hbC HB hx790_1
           replace hx790_2 := hbC HB hx790_2
           replace p790 := eq_true p790
           replace q790 := eq_true q790
           have p791 : 0 ≤ (x8_1 : Int) := of_decide_eq_true (by first | (with_reducible assumption) | assumption)
           have q791 : x8_1 < (l2.length : Int) := of_decide_eq_true (by first | (with_reducible assumption) | assumption)
           obtain ⟨ad791, e791, hx791_0, hx791_1, hx791_2⟩ := at_T61 HR2.out x8_1 p791 q791
           obtain rfl : ad789 = ad791 := (by injection e791)
           replace hx791_0 := hbC HB hx791_0
           replace hx791_1 := hbC HB hx791_1
           replace hx791_2 := hbC HB hx791_2
           replace p791 := eq_true p791
           replace q791 := eq_true q791
           have p792 : 0 ≤ (x8_1 : Int) := of_decide_eq_true (by first | (with_reducible assumption) | assumption)
           have q792 : x8_1 < (l2.length : Int) := of_decide_eq_true (by first | (with_reducible assumption) | assumption)
           obtain ⟨ad792, e792, hx792_0, hx792_1, hx792_2⟩ := at_T61 HR2.out x8_1 p792 q792
           obtain rfl : ad789 = ad792 := (by injection e792)
           replace hx792_0 := hbC HB hx792_0
           replace hx792_1 := hbC HB hx792_1
           replace hx792_2 := hbC HB hx792_2
           replace p792 := eq_true p792
           replace q792 := eq_true q792
           have p793 : 0 ≤ (x8_1 : Int) := of_decide_eq_true (by first | (with_reducible assumption) | assumption)
           have q793 : x8_1 < (l2.length : Int) := of_decide_eq_true (by first | (with_reducible assumption) | assumption)
           obtain ⟨ad793, e793, hx793_0, hx793_1, hx793_2⟩ := at_T61 HR2.out x8_1 p793 q793
           obtain rfl : ad789 = ad793 := (by injection e793)
           replace hx793_0 := hbC HB hx793_0
           replace hx793_1 := hbC HB hx793_1
           replace hx793_2 := hbC HB hx793_2
           replace p793 := eq_true p793
           replace q793 := eq_true q793
           go_wp2
           repeat (go_quiet (fail); try go_wp2)
           go_ret
           exact ⟨by first | rfl | (simp [errW_none, errW_some] <;> rfl) | (simp [*, errW_none, errW_some] <;> rfl), hU HB.out⟩
          ·rw [if_neg c14] at H
           have c14b0 : decide (((rd_T61 l2 x8_1).f1) < 2) = false := decide_eq_false c14
           clear c14
           by_cases c15 : ((rd_T61 l2 x8_1).f1) > 16
           ·rw [if_pos c15] at H
            have c15b0 : decide (16 < ((rd_T61 l2 x8_1).f1)) = true := decide_eq_true c15
            clear c15
            obtain rfl := Option.some.inj H
            have p789 : 0 ≤ (x8_1 : Int) := of_decide_eq_true (by first | (with_reducible assumption) | assumption)
            have q789 : x8_1 < (l2.length : Int) := of_decide_eq_true (by first | (with_reducible assumption) | assumption)
            obtain ⟨ad789, e789, hx789_0, hx789_1, hx789_2⟩ := at_T61 HR2.out x8_1 p789 q789
            cases e789
            replace hx789_0 := hbC HB hx789_0
            replace hx789_1 := hbC HB hx789_1
            replace hx789_2 := hbC HB hx789_2
            replace p789 := eq_true p789
            replace q789 := eq_true q789
            have p790 : 0 ≤ (x8_1 : Int) := of_decide_eq_true (by first | (with_reducible assumption) | assumption)
            have q790 : x8_1 < (l2.length : Int) := of_decide_eq_true (by first | (with_reducible assumption) | assumption)
            obtain ⟨ad790, e790, hx790_0, hx790_1, hx790_2⟩ := at_T61 HR2.out x8_1 p790 q790
            obtain rfl : ad789 = ad790 := (by injection e790)
            replace hx790_0 := hbC HB hx790_0
            replace hx790_1 := hbC HB hx790_1
            replace hx790_2 := hbC HB hx790_2
            replace p790 := eq_true p790
            replace q790 := eq_true q790
            have p791 : 0 ≤ (x8_1 : Int) := of_decide_eq_true (by first | (with_reducible assumption) | assumption)
            have q791 : x8_1 < (l2.length : Int) := of_decide_eq_true (by first | (with_reducible assumption) | assumption)
            obtain ⟨ad791, e791, hx791_0, hx791_1, hx791_2⟩ := at_T61 HR2.out x8_1 p791 q791
            obtain rfl : ad789 = ad791 := (by injection e791)
            replace hx791_0 := hbC HB hx791_0
            replace hx791_1 := hbC HB hx791_1
            replace hx791_2 := hbC HB hx791_2
            replace p791 := eq_true p791
            replace q791 := eq_true q791
            have p792 : 0 ≤ (x8_1 : Int) := of_decide_eq_true (by first | (with_reducible assumption) | assumption)
            have q792 : x8_1 < (l2.length : Int) := of_decide_eq_true (by first | (with_reducible assumption) | assumption)
            obtain ⟨ad792, e792, hx792_0, hx792_1, hx792_2⟩ := at_T61 HR2.out x8_1 p792 q792
            obtain rfl : ad789 = ad792 := (by injection e792)
            replace hx792_0 := hbC HB hx792_0
            replace hx792_1 := hbC HB hx792_1
            replace hx792_2 := hbC HB hx792_2
            replace p792 := eq_true p792
            replace q792 := eq_true q792
            have p793 : 0 ≤ (x8_1 : Int) := of_decide_eq_true (by first | (with_reducible assumption) | assumption)
            have q793 : x8_1 < (l2.length : Int) := of_decide_eq_true (by first | (with_reducible assumption) | assumption)
            obtain ⟨ad793, e793, hx793_0, hx793_1, hx793_2⟩ := at_T61 HR2.out x8_1 p793 q793
            obtain rfl : ad789 = ad793 := (by injection e793)
            replace hx793_0 := hbC HB hx793_0
            replace hx793_1 := hbC HB hx793_1
            replace hx793_2 := hbC HB hx793_2
            replace p793 := eq_true p793
            replace q793 := eq_true q793
            have p794 : 0 ≤ (x8_1 : Int) := of_decide_eq_true (by first | (with_reducible assumption) | assumption)
            have q794 : x8_1 < (l2.length : Int) := of_decide_eq_true (by first | (with_reducible assumption) | assumption)
            obtain ⟨ad794, e794, hx794_0, hx794_1, hx794_2⟩ := at_T61 HR2.out x8_1 p794 q794
            obtain rfl : ad789 = ad794 := (by injection e794)
            replace hx794_0 := hbC HB hx794_0
            replace hx794_1 := hbC HB hx794_1
            replace hx794_2 := hbC HB hx794_2
            replace p794 := eq_true p794
            replace q794 := eq_true q794
            go_wp2
            repeat (go_quiet (fail); try go_wp2)
            go_ret
            exact ⟨by first | rfl | (simp [errW_none, errW_some] <;> rfl) | (simp [*, errW_none, errW_some] <;> rfl), hU HB.out⟩
           ·rw [if_neg c15] at H
            have c15b0 : decide (16 < ((rd_T61 l2 x8_1).f1)) = false := decide_eq_false c15
            clear c15
            have H' := Aside0.mk H
            clear H
            have p789 : 0 ≤ (x8_1 : Int) := of_decide_eq_true (by first | (with_reducible assumption) | assumption)
            have q789 : x8_1 < (l2.length : Int) := of_decide_eq_true (by first | (with_reducible assumption) | assumption)
            obtain ⟨ad789, e789, hx789_0, hx789_1, hx789_2⟩ := at_T61 HR2.out x8_1 p789 q789
            cases e789
            replace hx789_0 := hbC HB hx789_0
            replace hx789_1 := hbC HB hx789_1
            replace hx789_2 := hbC HB hx789_2
            replace p789 := eq_true p789
            replace q789 := eq_true q789
            have p790 : 0 ≤ (x8_1 : Int) := of_decide_eq_true (by first | (with_reducible assumption) | assumption)
            have q790 : x8_1 < (l2.length : Int) := of_decide_eq_true (by first | (with_reducible assumption) | assumption)
            obtain ⟨ad790, e790, hx790_0, hx790_1, hx790_2⟩ := at_T61 HR2.out x8_1 p790 q790
            obtain rfl : ad789 = ad790 := (by injection e790)
            replace hx790_0 := hbC HB hx790_0
            replace hx790_1 := hbC HB hx790_1
            replace hx790_2 := hbC HB hx790_2
            replace p790 := eq_true p790
            replace q790 := eq_true q790
            have p791 : 0 ≤ (x8_1 : Int) := of_decide_eq_true (by first | (with_reducible assumption) | assumption)
            have q791 : x8_1 < (l2.length : Int) := of_decide_eq_true (by first | (with_reducible assumption) | assumption)
            obtain ⟨ad791, e791, hx791_0, hx791_1, hx791_2⟩ := at_T61 HR2.out x8_1 p791 q791
            obtain rfl : ad789 = ad791 := (by injection e791)
            replace hx791_0 := hbC HB hx791_0
            replace hx791_1 := hbC HB hx791_1
            replace hx791_2 := hbC HB hx791_2
            replace p791 := eq_true p791
            replace q791 := eq_true q791
            have p792 : 0 ≤ (x8_1 : Int) := of_decide_eq_true (by first | (with_reducible assumption) | assumption)
            have q792 : x8_1 < (l2.length : Int) := of_decide_eq_true (by first | (with_reducible assumption) | assumption)
            obtain ⟨ad792, e792, hx792_0, hx792_1, hx792_2⟩ := at_T61 HR2.out x8_1 p792 q792
            obtain rfl : ad789 = ad792 := (by injection e792)
            replace hx792_0 := hbC HB hx792_0
            replace hx792_1 := hbC HB hx792_1
            replace hx792_2 := hbC HB hx792_2
            replace p792 := eq_true p792
            replace q792 := eq_true q792
            have p793 : 0 ≤ (x8_1 : Int) := of_decide_eq_true (by first | (with_reducible assumption) | assumption)
            have q793 : x8_1 < (l2.length : Int) := of_decide_eq_true (by first | (with_reducible assumption) | assumption)
            obtain ⟨ad793, e793, hx793_0, hx793_1, hx793_2⟩ := at_T61 HR2.out x8_1 p793 q793
            obtain rfl : ad789 = ad793 := (by injection e793)
            replace hx793_0 := hbC HB hx793_0
            replace hx793_1 := hbC HB hx793_1
            replace hx793_2 := hbC HB hx793_2
            replace p793 := eq_true p793
            replace q793 := eq_true q793
            have p794 : 0 ≤ (x8_1 : Int) := of_decide_eq_true (by first | (with_reducible assumption) | assumption)
            have q794 : x8_1 < (l2.length : Int) := of_decide_eq_true (by first | (with_reducible assumption) | assumption)
            obtain ⟨ad794, e794, hx794_0, hx794_1, hx794_2⟩ := at_T61 HR2.out x8_1 p794 q794
            obtain rfl : ad789 = ad794 := (by injection e794)
            replace hx794_0 := hbC HB hx794_0
            replace hx794_1 := hbC HB hx794_1
            replace hx794_2 := hbC HB hx794_2
            replace p794 := eq_true p794
            replace q794 := eq_true q794
            go_wp2
            repeat (go_quiet (fail); try go_wp2)
            go_roundg k1
            case measure => have := HK1.out; omega
            case rel => exact ⟨(wrap64 (x8_1 + 1)), (by first | rfl | (simp; done) | (simp [*]; done)), H', ⟨by have := HK1.out; omega⟩, ⟨hU HB.out⟩⟩
      ·rw [if_neg c10] at H
       exact absurd H (by simp)
     ·rw [if_neg c9] at H
      have c9b0 : decide (x8_1 < (l2.length : Int)) = false := decide_eq_false c9
      clear c9
      have H' := Aside0.mk H
      clear H
      go_wp2
      repeat (go_quiet (fail); try go_wp2)
      go_loopg [9] k1 (fun kq v9 w' => ∃ (x9_2 : Int), v9 = .int .i64 x9_2 ∧ Aside0 (dancestudioref26_Check.l1 kq l0 a1 l2 x9_2 = some r) ∧ Aside0 (kq ≤ k1) ∧ Aside0 (Below w.heap.size w w'))
      case atStart => exact ⟨(1), (by first | rfl | (simp; done) | (simp [*]; done)), H', ⟨Nat.le_refl _⟩, ⟨hU HB.out⟩⟩
      case round =>
       clear H'
       try clear c1
       try clear c2
       try clear p2
       try clear c4
       try clear c5
       try clear c5b0
       try clear c5b1
       try clear c6
       try clear c6b0
       try clear c6b1
       try clear p6
       try clear p7
       try clear q7
       try clear hx7
       try clear c9
       try clear c9b0
       try clear c10
       try clear c10b0
       try clear c11
       try clear c11b0
       try clear c12
       try clear c12b0
       try clear c13
       try clear c13b0
       try clear c14
       try clear c14b0
       try clear c15
       try clear c15b0
       try clear hx789_0
       try clear hx789_1
       try clear hx789_2
       try clear hx790_0
       try clear hx790_1
       try clear hx790_2
       try clear hx791_0
       try clear hx791_1
       try clear hx791_2
       try clear hx792_0
       try clear hx792_1
       try clear hx792_2
       try clear hx793_0
       try clear hx793_1
       try clear hx793_2
       try clear hx794_0
       try clear hx794_1
       try clear hx794_2
       try clear p2
       try clear p789
       try clear p790
       try clear p791
       try clear p792
       try clear p793
       try clear p794
       try clear q789
       try clear q790
       try clear q791
       try clear q792
       try clear q793
       try clear q794
       obtain ⟨x9_2, rfl, HA, HK2, HB⟩ := hrel
       cases gk with
       | zero => exact absurd HA.out (by simp [dancestudioref26_Check.l1])
       | succ k2 =>
        have H := HA.out
        clear HA
        simp only [dancestudioref26_Check.l1] at H
        by_cases c16 : x9_2 < (l2.length : Int)
        ·rw [if_pos c16] at H
         have c16b0 : decide (x9_2 < (l2.length : Int)) = true := decide_eq_true c16
         clear c16
         by_cases c17 : 0 ≤ x9_2
         ·rw [if_pos c17] at H
          have c17b0 : decide (0 ≤ x9_2) = true := decide_eq_true c17
          clear c17
          obtain ⟨ji18, hji18⟩ : ∃ j_ : Int, (wrap64 (x9_2 - 1)) = j_ := ⟨_, rfl⟩
          replace H : (if 0 ≤ (ji18) then (if (ji18) < (l2.length : Int) then (if ((rd_T61 l2 x9_2).f0.f0) < ((rd_T61 l2 (ji18)).f0.f1) then (some 5) else (dancestudioref26_Check.l1 k2 l0 a1 l2 (wrap64 (x9_2 + 1)))) else (none)) else (none)) = some r := by first | (rw [hji18] at H; exact H) | (simp only [hji18] at H ⊢; exact H)
          have hji18w : (IntKind.i64.wrap (x9_2 - 1)) = ji18 := (i64_w _).trans hji18
          by_cases c19 : 0 ≤ (ji18)
          ·rw [if_pos c19] at H
           have c19b0 : decide (0 ≤ (ji18)) = true := decide_eq_true c19
           clear c19
           by_cases c20 : (ji18) < (l2.length : Int)
           ·rw [if_pos c20] at H
            have c20b0 : decide ((ji18) < (l2.length : Int)) = true := decide_eq_true c20
            clear c20
            by_cases c21 : ((rd_T61 l2 x9_2).f0.f0) < ((rd_T61 l2 (ji18)).f0.f1)
            ·rw [if_pos c21] at H
             have c21b0 : decide (((rd_T61 l2 x9_2).f0.f0) < ((rd_T61 l2 (ji18)).f0.f1)) = true := decide_eq_true c21
             clear c21
             obtain rfl := Option.some.inj H
             have p795 : 0 ≤ (x9_2 : Int) := of_decide_eq_true (by first | (with_reducible assumption) | assumption)
             have q795 : x9_2 < (l2.length : Int) := of_decide_eq_true (by first | (with_reducible assumption) | assumption)
             obtain ⟨ad795, e795, hx795_0, hx795_1, hx795_2⟩ := at_T61 HR2.out x9_2 p795 q795
             cases e795
             replace hx795_0 := hbC HB hx795_0
             replace hx795_1 := hbC HB hx795_1
             replace hx795_2 := hbC HB hx795_2
             replace p795 := eq_true p795
             replace q795 := eq_true q795
             have p796 : 0 ≤ ((ji18) : Int) := of_decide_eq_true (by first | (with_reducible assumption) | assumption)
             have q796 : (ji18) < (l2.length : Int) := of_decide_eq_true (by first | (with_reducible assumption) | assumption)
             obtain ⟨ad796, e796, hx796_0, hx796_1, hx796_2⟩ := at_T61 HR2.out (ji18) p796 q796
             obtain rfl : ad795 = ad796 := (by injection e796)
             replace hx796_0 := hbC HB hx796_0
             replace hx796_1 := hbC HB hx796_1
             replace hx796_2 := hbC HB hx796_2
             replace p796 := eq_true p796
             replace q796 := eq_true q796
             go_wp2
             repeat (go_quiet (fail); try go_wp2)
             go_ret
             exact ⟨by first | rfl | (simp [errW_none, errW_some] <;> rfl) | (simp only [← hji18]; first | rfl | (simp [errW_none, errW_some] <;> rfl)) | (simp [*, errW_none, errW_some] <;> rfl), hU HB.out⟩
            ·rw [if_neg c21] at H
             have c21b0 : decide (((rd_T61 l2 x9_2).f0.f0) < ((rd_T61 l2 (ji18)).f0.f1)) = false := decide_eq_false c21
             clear c21
             have H' := Aside0.mk H
             clear H
             have p795 : 0 ≤ (x9_2 : Int) := of_decide_eq_true (by first | (with_reducible assumption) | assumption)
             have q795 : x9_2 < (l2.length : Int) := of_decide_eq_true (by first | (with_reducible assumption) | assumption)
             obtain ⟨ad795, e795, hx795_0, hx795_1, hx795_2⟩ := at_T61 HR2.out x9_2 p795 q795
             cases e795
             replace hx795_0 := hbC HB hx795_0
             replace hx795_1 := hbC HB hx795_1
             replace hx795_2 := hbC HB hx795_2
             replace p795 := eq_true p795
             replace q795 := eq_true q795
             have p796 : 0 ≤ ((ji18) : Int) := of_decide_eq_true (by first | (with_reducible assumption) | assumption)
             have q796 : (ji18) < (l2.length : Int) := of_decide_eq_true (by first | (with_reducible assumption) | assumption)
             obtain ⟨ad796, e796, hx796_0, hx796_1, hx796_2⟩ := at_T61 HR2.out (ji18) p796 q796
             obtain rfl : ad795 = ad796 := (by injection e796)
             replace hx796_0 := hbC HB hx796_0
             replace hx796_1 := hbC HB hx796_1
             replace hx796_2 := hbC HB hx796_2
             replace p796 := eq_true p796
             replace q796 := eq_true q796
             go_wp2
             repeat (go_quiet (fail); try go_wp2)
             go_roundg k2
             case measure => have := HK1.out; have := HK2.out; omega
             case rel => exact ⟨(wrap64 (x9_2 + 1)), (by first | rfl | (simp; done) | (simp [*]; done)), H', ⟨by have := HK1.out; have := HK2.out; omega⟩, ⟨hU HB.out⟩⟩
           ·rw [if_neg c20] at H
            exact absurd H (by simp)
          ·rw [if_neg c19] at H
           exact absurd H (by simp)
         ·rw [if_neg c17] at H
          exact absurd H (by simp)
        ·rw [if_neg c16] at H
         have c16b0 : decide (x9_2 < (l2.length : Int)) = false := decide_eq_false c16
         clear c16
         have H' := Aside0.mk H
         clear H
         go_wp2
         repeat (go_quiet (fail); try go_wp2)
         go_loopg [10] k2 (fun kq v10 w' => ∃ (x10_3 : Int), v10 = .int .i64 x10_3 ∧ Aside0 (dancestudioref26_Check.l2 kq l0 a1 l2 x10_3 = some r) ∧ Aside0 (kq ≤ k2) ∧ Aside0 (Below w.heap.size w w'))
         case atStart => exact ⟨(0), (by first | rfl | (simp; done) | (simp [*]; done)), H', ⟨Nat.le_refl _⟩, ⟨hU HB.out⟩⟩
         case round =>
          clear H'
          try clear c1
          try clear c2
          try clear p2
          try clear c4
          try clear c5
          try clear c5b0
          try clear c5b1
          try clear c6
          try clear c6b0
          try clear c6b1
          try clear p6
          try clear p7
          try clear q7
          try clear hx7
          try clear c9
          try clear c9b0
          try clear c10
          try clear c10b0
          try clear c11
          try clear c11b0
          try clear c12
          try clear c12b0
          try clear c13
          try clear c13b0
          try clear c14
          try clear c14b0
          try clear c15
          try clear c15b0
          try clear c16
          try clear c16b0
          try clear c17
          try clear c17b0
          try clear c19
          try clear c19b0
          try clear c20
          try clear c20b0
          try clear c21
          try clear c21b0
          try clear hx789_0
          try clear hx789_1
          try clear hx789_2
          try clear hx790_0
          try clear hx790_1
          try clear hx790_2
          try clear hx791_0
          try clear hx791_1
          try clear hx791_2
          try clear hx792_0
          try clear hx792_1
          try clear hx792_2
          try clear hx793_0
          try clear hx793_1
          try clear hx793_2
          try clear hx794_0
          try clear hx794_1
          try clear hx794_2
          try clear hx795_0
          try clear hx795_1
          try clear hx795_2
          try clear hx796_0
          try clear hx796_1
          try clear hx796_2
          try clear p2
          try clear p6
          try clear p7
          try clear p789
          try clear p790
          try clear p791
          try clear p792
          try clear p793
          try clear p794
          try clear p795
          try clear p796
          try clear q7
          try clear q789
          try clear q790
          try clear q791
          try clear q792
          try clear q793
          try clear q794
          try clear q795
          try clear q796
          obtain ⟨x10_3, rfl, HA, HK3, HB⟩ := hrel
          cases gk with
          | zero => exact absurd HA.out (by simp [dancestudioref26_Check.l2])
          | succ k3 =>
           have H := HA.out
           clear HA
           simp only [dancestudioref26_Check.l2] at H
           by_cases c22 : x10_3 < (l2.length : Int)
           ·rw [if_pos c22] at H
            have c22b0 : decide (x10_3 < (l2.length : Int)) = true := decide_eq_true c22
            clear c22
            by_cases c23 : 0 ≤ x10_3
            ·rw [if_pos c23] at H
             have c23b0 : decide (0 ≤ x10_3) = true := decide_eq_true c23
             clear c23
             replace H := Option.bind_eq_some_iff.mp H
             obtain ⟨t798, A240, H⟩ := H
             try dsimp only at H
             have A24 := Aside0.mk A240
             clear A240
             by_cases c25 : t798 = true
             ·subst c25
              rw [if_pos rfl] at H
              replace H := Option.bind_eq_some_iff.mp H
              obtain ⟨t800, A260, H⟩ := H
              replace H : (if t800 = true then (dancestudioref26_Check.l2 k3 l0 a1 l2 (wrap64 (x10_3 + 1))) else (some 17)) = some r := H
              have A26 := Aside0.mk A260
              clear A260
              by_cases c27 : t800 = true
              ·subst c27
               have H1 : (dancestudioref26_Check.l2 k3 l0 a1 l2 (wrap64 (x10_3 + 1))) = some r := by rw [if_pos rfl] at H; exact H
               clear H
               have H := H1
               clear H1
               have H' := Aside0.mk H
               clear H
               have p797 : 0 ≤ (x10_3 : Int) := of_decide_eq_true (by first | (with_reducible assumption) | assumption)
               have q797 : x10_3 < (l2.length : Int) := of_decide_eq_true (by first | (with_reducible assumption) | assumption)
               obtain ⟨ad797, e797, hx797_0, hx797_1, hx797_2⟩ := at_T61 HR2.out x10_3 p797 q797
               cases e797
               replace hx797_0 := hbC HB hx797_0
               replace hx797_1 := hbC HB hx797_1
               replace hx797_2 := hbC HB hx797_2
               replace p797 := eq_true p797
               replace q797 := eq_true q797
               go_wp2_with (first | (go_at_call 74; (with_reducible refine (dancestudioref26_cut.calls k3 _ _ l0 ((rd_T61 l2 x10_3).f0.f0) true _ ?side1 ?side2 A24.out).mono ?_); (case side1 => repeat (first | exact (Kd.C_below HR0.out HB.out) | (with_reducible refine Kd.C_alloc ?_ _) | (with_reducible refine Kd.C_drewN ?_ _) | (with_reducible refine Kd.C_drew ?_))); (case side2 => exact HC0.out); rintro e w' ⟨rfl, ⟨nd, rfl⟩⟩; (try first | exact ⟨rfl, _, World.drewN_drewN _ _ _⟩ | exact ⟨rfl, _, Eq.trans (World.drewN_drewN _ _ _) (congrArg (World.drewN _) (Nat.add_assoc _ _ _))⟩); have p799 : 0 ≤ (x10_3 : Int) := of_decide_eq_true (by first | (with_reducible assumption) | assumption); have q799 : x10_3 < (l2.length : Int) := of_decide_eq_true (by first | (with_reducible assumption) | assumption); obtain ⟨ad799, e799, hx799_0, hx799_1, hx799_2⟩ := at_T61 HR2.out x10_3 p799 q799; obtain rfl : ad797 = ad799 := (by injection e799); replace hx799_0 := hbC HB hx799_0; replace hx799_1 := hbC HB hx799_1; replace hx799_2 := hbC HB hx799_2; replace p799 := eq_true p799; replace q799 := eq_true q799) | (go_at_call 74; (with_reducible refine (dancestudioref26_cut.calls k3 _ _ l0 ((rd_T61 l2 x10_3).f0.f1) true _ ?side1 ?side2 A26.out).mono ?_); (case side1 => repeat (first | exact (Kd.C_below HR0.out (hU HB.out)) | (with_reducible refine Kd.C_alloc ?_ _) | (with_reducible refine Kd.C_drewN ?_ _) | (with_reducible refine Kd.C_drew ?_))); (case side2 => exact HC0.out); rintro e w' ⟨rfl, ⟨nd, rfl⟩⟩; (try first | exact ⟨rfl, _, World.drewN_drewN _ _ _⟩ | exact ⟨rfl, _, Eq.trans (World.drewN_drewN _ _ _) (congrArg (World.drewN _) (Nat.add_assoc _ _ _))⟩)))
               repeat (go_quiet (first | (go_at_call 74; (with_reducible refine (dancestudioref26_cut.calls k3 _ _ l0 ((rd_T61 l2 x10_3).f0.f0) true _ ?side1 ?side2 A24.out).mono ?_); (case side1 => repeat (first | exact (Kd.C_below HR0.out HB.out) | (with_reducible refine Kd.C_alloc ?_ _) | (with_reducible refine Kd.C_drewN ?_ _) | (with_reducible refine Kd.C_drew ?_))); (case side2 => exact HC0.out); rintro e w' ⟨rfl, ⟨nd, rfl⟩⟩; (try first | exact ⟨rfl, _, World.drewN_drewN _ _ _⟩ | exact ⟨rfl, _, Eq.trans (World.drewN_drewN _ _ _) (congrArg (World.drewN _) (Nat.add_assoc _ _ _))⟩); have p799 : 0 ≤ (x10_3 : Int) := of_decide_eq_true (by first | (with_reducible assumption) | assumption); have q799 : x10_3 < (l2.length : Int) := of_decide_eq_true (by first | (with_reducible assumption) | assumption); obtain ⟨ad799, e799, hx799_0, hx799_1, hx799_2⟩ := at_T61 HR2.out x10_3 p799 q799; obtain rfl : ad797 = ad799 := (by injection e799); replace hx799_0 := hbC HB hx799_0; replace hx799_1 := hbC HB hx799_1; replace hx799_2 := hbC HB hx799_2; replace p799 := eq_true p799; replace q799 := eq_true q799) | (go_at_call 74; (with_reducible refine (dancestudioref26_cut.calls k3 _ _ l0 ((rd_T61 l2 x10_3).f0.f1) true _ ?side1 ?side2 A26.out).mono ?_); (case side1 => repeat (first | exact (Kd.C_below HR0.out (hU HB.out)) | (with_reducible refine Kd.C_alloc ?_ _) | (with_reducible refine Kd.C_drewN ?_ _) | (with_reducible refine Kd.C_drew ?_))); (case side2 => exact HC0.out); rintro e w' ⟨rfl, ⟨nd, rfl⟩⟩; (try first | exact ⟨rfl, _, World.drewN_drewN _ _ _⟩ | exact ⟨rfl, _, Eq.trans (World.drewN_drewN _ _ _) (congrArg (World.drewN _) (Nat.add_assoc _ _ _))⟩))); try go_wp2_with (first | (go_at_call 74; (with_reducible refine (dancestudioref26_cut.calls k3 _ _ l0 ((rd_T61 l2 x10_3).f0.f0) true _ ?side1 ?side2 A24.out).mono ?_); (case side1 => repeat (first | exact (Kd.C_below HR0.out HB.out) | (with_reducible refine Kd.C_alloc ?_ _) | (with_reducible refine Kd.C_drewN ?_ _) | (with_reducible refine Kd.C_drew ?_))); (case side2 => exact HC0.out); rintro e w' ⟨rfl, ⟨nd, rfl⟩⟩; (try first | exact ⟨rfl, _, World.drewN_drewN _ _ _⟩ | exact ⟨rfl, _, Eq.trans (World.drewN_drewN _ _ _) (congrArg (World.drewN _) (Nat.add_assoc _ _ _))⟩); have p799 : 0 ≤ (x10_3 : Int) := of_decide_eq_true (by first | (with_reducible assumption) | assumption); have q799 : x10_3 < (l2.length : Int) := of_decide_eq_true (by first | (with_reducible assumption) | assumption); obtain ⟨ad799, e799, hx799_0, hx799_1, hx799_2⟩ := at_T61 HR2.out x10_3 p799 q799; obtain rfl : ad797 = ad799 := (by injection e799); replace hx799_0 := hbC HB hx799_0; replace hx799_1 := hbC HB hx799_1; replace hx799_2 := hbC HB hx799_2; replace p799 := eq_true p799; replace q799 := eq_true q799) | (go_at_call 74; (with_reducible refine (dancestudioref26_cut.calls k3 _ _ l0 ((rd_T61 l2 x10_3).f0.f1) true _ ?side1 ?side2 A26.out).mono ?_); (case side1 => repeat (first | exact (Kd.C_below HR0.out (hU HB.out)) | (with_reducible refine Kd.C_alloc ?_ _) | (with_reducible refine Kd.C_drewN ?_ _) | (with_reducible refine Kd.C_drew ?_))); (case side2 => exact HC0.out); rintro e w' ⟨rfl, ⟨nd, rfl⟩⟩; (try first | exact ⟨rfl, _, World.drewN_drewN _ _ _⟩ | exact ⟨rfl, _, Eq.trans (World.drewN_drewN _ _ _) (congrArg (World.drewN _) (Nat.add_assoc _ _ _))⟩))))
               go_roundg k3
               case measure => have := HK1.out; have := HK2.out; have := HK3.out; omega
               case rel => exact ⟨(wrap64 (x10_3 + 1)), (by first | rfl | (simp; done) | (simp [*]; done)), H', ⟨by have := HK1.out; have := HK2.out; have := HK3.out; omega⟩, ⟨hU HB.out⟩⟩
              ·replace c27 := Bool.eq_false_iff.mpr c27
               subst c27
               have H1 : (some 17) = some r := by rw [if_neg (show ¬ (false = true) by decide)] at H; exact H
               clear H
               have H := H1
               clear H1
               obtain rfl := Option.some.inj H
               have p797 : 0 ≤ (x10_3 : Int) := of_decide_eq_true (by first | (with_reducible assumption) | assumption)
               have q797 : x10_3 < (l2.length : Int) := of_decide_eq_true (by first | (with_reducible assumption) | assumption)
               obtain ⟨ad797, e797, hx797_0, hx797_1, hx797_2⟩ := at_T61 HR2.out x10_3 p797 q797
               cases e797
               replace hx797_0 := hbC HB hx797_0
               replace hx797_1 := hbC HB hx797_1
               replace hx797_2 := hbC HB hx797_2
               replace p797 := eq_true p797
               replace q797 := eq_true q797
               go_wp2_with (first | (go_at_call 74; (with_reducible refine (dancestudioref26_cut.calls k3 _ _ l0 ((rd_T61 l2 x10_3).f0.f0) true _ ?side1 ?side2 A24.out).mono ?_); (case side1 => repeat (first | exact (Kd.C_below HR0.out HB.out) | (with_reducible refine Kd.C_alloc ?_ _) | (with_reducible refine Kd.C_drewN ?_ _) | (with_reducible refine Kd.C_drew ?_))); (case side2 => exact HC0.out); rintro e w' ⟨rfl, ⟨nd, rfl⟩⟩; (try first | exact ⟨rfl, _, World.drewN_drewN _ _ _⟩ | exact ⟨rfl, _, Eq.trans (World.drewN_drewN _ _ _) (congrArg (World.drewN _) (Nat.add_assoc _ _ _))⟩); have p799 : 0 ≤ (x10_3 : Int) := of_decide_eq_true (by first | (with_reducible assumption) | assumption); have q799 : x10_3 < (l2.length : Int) := of_decide_eq_true (by first | (with_reducible assumption) | assumption); obtain ⟨ad799, e799, hx799_0, hx799_1, hx799_2⟩ := at_T61 HR2.out x10_3 p799 q799; obtain rfl : ad797 = ad799 := (by injection e799); replace hx799_0 := hbC HB hx799_0; replace hx799_1 := hbC HB hx799_1; replace hx799_2 := hbC HB hx799_2; replace p799 := eq_true p799; replace q799 := eq_true q799) | (go_at_call 74; (with_reducible refine (dancestudioref26_cut.calls k3 _ _ l0 ((rd_T61 l2 x10_3).f0.f1) false _ ?side1 ?side2 A26.out).mono ?_); (case side1 => repeat (first | exact (Kd.C_below HR0.out (hU HB.out)) | (with_reducible refine Kd.C_alloc ?_ _) | (with_reducible refine Kd.C_drewN ?_ _) | (with_reducible refine Kd.C_drew ?_))); (case side2 => exact HC0.out); rintro e w' ⟨rfl, ⟨nd, rfl⟩⟩; (try first | exact ⟨rfl, _, World.drewN_drewN _ _ _⟩ | exact ⟨rfl, _, Eq.trans (World.drewN_drewN _ _ _) (congrArg (World.drewN _) (Nat.add_assoc _ _ _))⟩)))
               repeat (go_quiet (first | (go_at_call 74; (with_reducible refine (dancestudioref26_cut.calls k3 _ _ l0 ((rd_T61 l2 x10_3).f0.f0) true _ ?side1 ?side2 A24.out).mono ?_); (case side1 => repeat (first | exact (Kd.C_below HR0.out HB.out) | (with_reducible refine Kd.C_alloc ?_ _) | (with_reducible refine Kd.C_drewN ?_ _) | (with_reducible refine Kd.C_drew ?_))); (case side2 => exact HC0.out); rintro e w' ⟨rfl, ⟨nd, rfl⟩⟩; (try first | exact ⟨rfl, _, World.drewN_drewN _ _ _⟩ | exact ⟨rfl, _, Eq.trans (World.drewN_drewN _ _ _) (congrArg (World.drewN _) (Nat.add_assoc _ _ _))⟩); have p799 : 0 ≤ (x10_3 : Int) := of_decide_eq_true (by first | (with_reducible assumption) | assumption); have q799 : x10_3 < (l2.length : Int) := of_decide_eq_true (by first | (with_reducible assumption) | assumption); obtain ⟨ad799, e799, hx799_0, hx799_1, hx799_2⟩ := at_T61 HR2.out x10_3 p799 q799; obtain rfl : ad797 = ad799 := (by injection e799); replace hx799_0 := hbC HB hx799_0; replace hx799_1 := hbC HB hx799_1; replace hx799_2 := hbC HB hx799_2; replace p799 := eq_true p799; replace q799 := eq_true q799) | (go_at_call 74; (with_reducible refine (dancestudioref26_cut.calls k3 _ _ l0 ((rd_T61 l2 x10_3).f0.f1) false _ ?side1 ?side2 A26.out).mono ?_); (case side1 => repeat (first | exact (Kd.C_below HR0.out (hU HB.out)) | (with_reducible refine Kd.C_alloc ?_ _) | (with_reducible refine Kd.C_drewN ?_ _) | (with_reducible refine Kd.C_drew ?_))); (case side2 => exact HC0.out); rintro e w' ⟨rfl, ⟨nd, rfl⟩⟩; (try first | exact ⟨rfl, _, World.drewN_drewN _ _ _⟩ | exact ⟨rfl, _, Eq.trans (World.drewN_drewN _ _ _) (congrArg (World.drewN _) (Nat.add_assoc _ _ _))⟩))); try go_wp2_with (first | (go_at_call 74; (with_reducible refine (dancestudioref26_cut.calls k3 _ _ l0 ((rd_T61 l2 x10_3).f0.f0) true _ ?side1 ?side2 A24.out).mono ?_); (case side1 => repeat (first | exact (Kd.C_below HR0.out HB.out) | (with_reducible refine Kd.C_alloc ?_ _) | (with_reducible refine Kd.C_drewN ?_ _) | (with_reducible refine Kd.C_drew ?_))); (case side2 => exact HC0.out); rintro e w' ⟨rfl, ⟨nd, rfl⟩⟩; (try first | exact ⟨rfl, _, World.drewN_drewN _ _ _⟩ | exact ⟨rfl, _, Eq.trans (World.drewN_drewN _ _ _) (congrArg (World.drewN _) (Nat.add_assoc _ _ _))⟩); have p799 : 0 ≤ (x10_3 : Int) := of_decide_eq_true (by first | (with_reducible assumption) | assumption); have q799 : x10_3 < (l2.length : Int) := of_decide_eq_true (by first | (with_reducible assumption) | assumption); obtain ⟨ad799, e799, hx799_0, hx799_1, hx799_2⟩ := at_T61 HR2.out x10_3 p799 q799; obtain rfl : ad797 = ad799 := (by injection e799); replace hx799_0 := hbC HB hx799_0; replace hx799_1 := hbC HB hx799_1; replace hx799_2 := hbC HB hx799_2; replace p799 := eq_true p799; replace q799 := eq_true q799) | (go_at_call 74; (with_reducible refine (dancestudioref26_cut.calls k3 _ _ l0 ((rd_T61 l2 x10_3).f0.f1) false _ ?side1 ?side2 A26.out).mono ?_); (case side1 => repeat (first | exact (Kd.C_below HR0.out (hU HB.out)) | (with_reducible refine Kd.C_alloc ?_ _) | (with_reducible refine Kd.C_drewN ?_ _) | (with_reducible refine Kd.C_drew ?_))); (case side2 => exact HC0.out); rintro e w' ⟨rfl, ⟨nd, rfl⟩⟩; (try first | exact ⟨rfl, _, World.drewN_drewN _ _ _⟩ | exact ⟨rfl, _, Eq.trans (World.drewN_drewN _ _ _) (congrArg (World.drewN _) (Nat.add_assoc _ _ _))⟩))))
               go_ret
               exact ⟨by first | rfl | (simp [errW_none, errW_some] <;> rfl) | (simp [*, errW_none, errW_some] <;> rfl), hU HB.out⟩
             ·replace c25 := Bool.eq_false_iff.mpr c25
              subst c25
              have H1 : (some 17) = some r := by rw [if_neg (show ¬ (false = true) by decide)] at H; exact H
              clear H
              have H := H1
              clear H1
              obtain rfl := Option.some.inj H
              have p797 : 0 ≤ (x10_3 : Int) := of_decide_eq_true (by first | (with_reducible assumption) | assumption)
              have q797 : x10_3 < (l2.length : Int) := of_decide_eq_true (by first | (with_reducible assumption) | assumption)
              obtain ⟨ad797, e797, hx797_0, hx797_1, hx797_2⟩ := at_T61 HR2.out x10_3 p797 q797
              cases e797
              replace hx797_0 := hbC HB hx797_0
              replace hx797_1 := hbC HB hx797_1
              replace hx797_2 := hbC HB hx797_2
              replace p797 := eq_true p797
              replace q797 := eq_true q797
              go_wp2_with (first | (go_at_call 74; (with_reducible refine (dancestudioref26_cut.calls k3 _ _ l0 ((rd_T61 l2 x10_3).f0.f0) false _ ?side1 ?side2 A24.out).mono ?_); (case side1 => repeat (first | exact (Kd.C_below HR0.out HB.out) | (with_reducible refine Kd.C_alloc ?_ _) | (with_reducible refine Kd.C_drewN ?_ _) | (with_reducible refine Kd.C_drew ?_))); (case side2 => exact HC0.out); rintro e w' ⟨rfl, ⟨nd, rfl⟩⟩; (try first | exact ⟨rfl, _, World.drewN_drewN _ _ _⟩ | exact ⟨rfl, _, Eq.trans (World.drewN_drewN _ _ _) (congrArg (World.drewN _) (Nat.add_assoc _ _ _))⟩)))
              repeat (go_quiet (first | (go_at_call 74; (with_reducible refine (dancestudioref26_cut.calls k3 _ _ l0 ((rd_T61 l2 x10_3).f0.f0) false _ ?side1 ?side2 A24.out).mono ?_); (case side1 => repeat (first | exact (Kd.C_below HR0.out HB.out) | (with_reducible refine Kd.C_alloc ?_ _) | (with_reducible refine Kd.C_drewN ?_ _) | (with_reducible refine Kd.C_drew ?_))); (case side2 => exact HC0.out); rintro e w' ⟨rfl, ⟨nd, rfl⟩⟩; (try first | exact ⟨rfl, _, World.drewN_drewN _ _ _⟩ | exact ⟨rfl, _, Eq.trans (World.drewN_drewN _ _ _) (congrArg (World.drewN _) (Nat.add_assoc _ _ _))⟩))); try go_wp2_with (first | (go_at_call 74; (with_reducible refine (dancestudioref26_cut.calls k3 _ _ l0 ((rd_T61 l2 x10_3).f0.f0) false _ ?side1 ?side2 A24.out).mono ?_); (case side1 => repeat (first | exact (Kd.C_below HR0.out HB.out) | (with_reducible refine Kd.C_alloc ?_ _) | (with_reducible refine Kd.C_drewN ?_ _) | (with_reducible refine Kd.C_drew ?_))); (case side2 => exact HC0.out); rintro e w' ⟨rfl, ⟨nd, rfl⟩⟩; (try first | exact ⟨rfl, _, World.drewN_drewN _ _ _⟩ | exact ⟨rfl, _, Eq.trans (World.drewN_drewN _ _ _) (congrArg (World.drewN _) (Nat.add_assoc _ _ _))⟩))))
              go_ret
              exact ⟨by first | rfl | (simp [errW_none, errW_some] <;> rfl) | (simp [*, errW_none, errW_some] <;> rfl), hU HB.out⟩
            ·rw [if_neg c23] at H
             exact absurd H (by simp)
           ·rw [if_neg c22] at H
            have c22b0 : decide (x10_3 < (l2.length : Int)) = false := decide_eq_false c22
            clear c22
            replace H := Option.bind_eq_some_iff.mp H
            obtain ⟨t801, A280, H⟩ := H
            try dsimp only at H
            have A28 := Aside0.mk A280
            clear A280
            replace H := Option.bind_eq_some_iff.mp H
            obtain ⟨t804, A290, H⟩ := H
            try dsimp only at H
            have A29 := Aside0.mk A290
            clear A290
            by_cases c30 : t804 > 8192
            ·rw [if_pos c30] at H
             have c30b0 : decide (8192 < t804) = true := decide_eq_true c30
             clear c30
             obtain rfl := Option.some.inj H
             go_wp2_with (first | (go_at_call 69; (with_reducible refine (dancestudioref26_Sections.calls k3 a1 _ _ l2 t801 _ ?side1 ?side2 A28.out).mono ?_); (case side1 => repeat (first | exact (Kd.C_below HR2.out HB.out) | (with_reducible refine Kd.C_alloc ?_ _) | (with_reducible refine Kd.C_drewN ?_ _) | (with_reducible refine Kd.C_drew ?_))); (case side2 => exact HC2.out); rintro e w31 ⟨v802, rfl, ho0, hb⟩; have n0_ := Aside0.mk (Kd.R_lower ho0 (below_size (hU HB.out))); have n1_ := Aside0.mk (below_step (hU HB.out) hb); clear HB; have HO803 := n0_; have HB := n1_; clear n0_ n1_; (try clear hb); (try clear hb2); (try clear hk); (try clear hi); (try clear ho0); obtain ⟨Ao32, co32, eo32⟩ := Kd.R_slice HO803.out; subst eo32) | (go_at_call 68; (with_reducible refine (dancestudioref26_total.calls k3 _ _ t801 t804 _ ?side1 ?side2 A29.out).mono ?_); (case side1 => repeat (first | exact (Kd.R_reads' HO803.out).2.2 | (with_reducible refine Kd.C_alloc ?_ _) | (with_reducible refine Kd.C_drewN ?_ _) | (with_reducible refine Kd.C_drew ?_))); (case side2 => exact (Kd.R_reads' HO803.out).2.1); rintro e w' ⟨rfl, ⟨nd, rfl⟩⟩; (try first | exact ⟨rfl, _, World.drewN_drewN _ _ _⟩ | exact ⟨rfl, _, Eq.trans (World.drewN_drewN _ _ _) (congrArg (World.drewN _) (Nat.add_assoc _ _ _))⟩)))
             repeat (go_quiet (first | (go_at_call 69; (with_reducible refine (dancestudioref26_Sections.calls k3 a1 _ _ l2 t801 _ ?side1 ?side2 A28.out).mono ?_); (case side1 => repeat (first | exact (Kd.C_below HR2.out HB.out) | (with_reducible refine Kd.C_alloc ?_ _) | (with_reducible refine Kd.C_drewN ?_ _) | (with_reducible refine Kd.C_drew ?_))); (case side2 => exact HC2.out); rintro e w31 ⟨v802, rfl, ho0, hb⟩; have n0_ := Aside0.mk (Kd.R_lower ho0 (below_size (hU HB.out))); have n1_ := Aside0.mk (below_step (hU HB.out) hb); clear HB; have HO803 := n0_; have HB := n1_; clear n0_ n1_; (try clear hb); (try clear hb2); (try clear hk); (try clear hi); (try clear ho0); obtain ⟨Ao32, co32, eo32⟩ := Kd.R_slice HO803.out; subst eo32) | (go_at_call 68; (with_reducible refine (dancestudioref26_total.calls k3 _ _ t801 t804 _ ?side1 ?side2 A29.out).mono ?_); (case side1 => repeat (first | exact (Kd.R_reads' HO803.out).2.2 | (with_reducible refine Kd.C_alloc ?_ _) | (with_reducible refine Kd.C_drewN ?_ _) | (with_reducible refine Kd.C_drew ?_))); (case side2 => exact (Kd.R_reads' HO803.out).2.1); rintro e w' ⟨rfl, ⟨nd, rfl⟩⟩; (try first | exact ⟨rfl, _, World.drewN_drewN _ _ _⟩ | exact ⟨rfl, _, Eq.trans (World.drewN_drewN _ _ _) (congrArg (World.drewN _) (Nat.add_assoc _ _ _))⟩))); try go_wp2_with (first | (go_at_call 69; (with_reducible refine (dancestudioref26_Sections.calls k3 a1 _ _ l2 t801 _ ?side1 ?side2 A28.out).mono ?_); (case side1 => repeat (first | exact (Kd.C_below HR2.out HB.out) | (with_reducible refine Kd.C_alloc ?_ _) | (with_reducible refine Kd.C_drewN ?_ _) | (with_reducible refine Kd.C_drew ?_))); (case side2 => exact HC2.out); rintro e w31 ⟨v802, rfl, ho0, hb⟩; have n0_ := Aside0.mk (Kd.R_lower ho0 (below_size (hU HB.out))); have n1_ := Aside0.mk (below_step (hU HB.out) hb); clear HB; have HO803 := n0_; have HB := n1_; clear n0_ n1_; (try clear hb); (try clear hb2); (try clear hk); (try clear hi); (try clear ho0); obtain ⟨Ao32, co32, eo32⟩ := Kd.R_slice HO803.out; subst eo32) | (go_at_call 68; (with_reducible refine (dancestudioref26_total.calls k3 _ _ t801 t804 _ ?side1 ?side2 A29.out).mono ?_); (case side1 => repeat (first | exact (Kd.R_reads' HO803.out).2.2 | (with_reducible refine Kd.C_alloc ?_ _) | (with_reducible refine Kd.C_drewN ?_ _) | (with_reducible refine Kd.C_drew ?_))); (case side2 => exact (Kd.R_reads' HO803.out).2.1); rintro e w' ⟨rfl, ⟨nd, rfl⟩⟩; (try first | exact ⟨rfl, _, World.drewN_drewN _ _ _⟩ | exact ⟨rfl, _, Eq.trans (World.drewN_drewN _ _ _) (congrArg (World.drewN _) (Nat.add_assoc _ _ _))⟩))))
             go_ret
             exact ⟨by first | rfl | (simp [errW_none, errW_some] <;> rfl) | (simp [*, errW_none, errW_some] <;> rfl), hU HB.out⟩
            ·rw [if_neg c30] at H
             have c30b0 : decide (8192 < t804) = false := decide_eq_false c30
             clear c30
             replace H := Option.bind_eq_some_iff.mp H
             obtain ⟨t805, A330, H⟩ := H
             replace H : (if (t805.length : Int) > 256 then (some 3) else (some 0)) = some r := H
             have A33 := Aside0.mk A330
             clear A330
             by_cases c34 : (t805.length : Int) > 256
             ·rw [if_pos c34] at H
              have c34b0 : decide (256 < (t805.length : Int)) = true := decide_eq_true c34
              have c34b1 : decide (256 < t805.length) = true := decide_eq_true (by omega)
              clear c34
              obtain rfl := Option.some.inj H
              go_wp2_with (first | (go_at_call 69; (with_reducible refine (dancestudioref26_Sections.calls k3 a1 _ _ l2 t801 _ ?side1 ?side2 A28.out).mono ?_); (case side1 => repeat (first | exact (Kd.C_below HR2.out HB.out) | (with_reducible refine Kd.C_alloc ?_ _) | (with_reducible refine Kd.C_drewN ?_ _) | (with_reducible refine Kd.C_drew ?_))); (case side2 => exact HC2.out); rintro e w35 ⟨v802, rfl, ho0, hb⟩; have n0_ := Aside0.mk (Kd.R_lower ho0 (below_size (hU HB.out))); have n1_ := Aside0.mk (below_step (hU HB.out) hb); clear HB; have HO803 := n0_; have HB := n1_; clear n0_ n1_; (try clear hb); (try clear hb2); (try clear hk); (try clear hi); (try clear ho0); obtain ⟨Ao36, co36, eo36⟩ := Kd.R_slice HO803.out; subst eo36) | (go_at_call 68; (with_reducible refine (dancestudioref26_total.calls k3 _ _ t801 t804 _ ?side1 ?side2 A29.out).mono ?_); (case side1 => repeat (first | exact (Kd.R_reads' HO803.out).2.2 | (with_reducible refine Kd.C_alloc ?_ _) | (with_reducible refine Kd.C_drewN ?_ _) | (with_reducible refine Kd.C_drew ?_))); (case side2 => exact (Kd.R_reads' HO803.out).2.1); rintro e w' ⟨rfl, ⟨nd, rfl⟩⟩; (try first | exact ⟨rfl, _, World.drewN_drewN _ _ _⟩ | exact ⟨rfl, _, Eq.trans (World.drewN_drewN _ _ _) (congrArg (World.drewN _) (Nat.add_assoc _ _ _))⟩)) | (go_at_call 75; (with_reducible refine (dancestudioref26_performed.calls k3 _ _ l0 _ _ t801 t805 _ ?side1 ?side2 ?side3 ?side4 A33.out).mono ?_); (case side1 => repeat (first | exact (Kd.C_below HR0.out (hU HB.out)) | (with_reducible refine Kd.C_alloc ?_ _) | (with_reducible refine Kd.C_drewN ?_ _) | (with_reducible refine Kd.C_drew ?_))); (case side2 => exact HC0.out); (case side3 => repeat (first | exact (Kd.R_reads' HO803.out).2.2 | (with_reducible refine Kd.C_alloc ?_ _) | (with_reducible refine Kd.C_drewN ?_ _) | (with_reducible refine Kd.C_drew ?_))); (case side4 => exact (Kd.R_reads' HO803.out).2.1); rintro e w37 ⟨v806, rfl, ho0, hb⟩; have n0_ := Aside0.mk (Kd.R_below (Kd.rU HO803.out) hb); have n1_ := Aside0.mk (Kd.R_lower ho0 (below_size (hU HB.out))); have n2_ := Aside0.mk (below_step (hU HB.out) hb); clear HO803; clear HB; have HO803 := n0_; have HO807 := n1_; have HB := n2_; clear n0_ n1_ n2_; (try clear hb); (try clear hb2); (try clear hk); (try clear hi); (try clear ho0); obtain ⟨Ao38, co38, eo38⟩ := Kd.R_slice HO807.out; subst eo38))
              repeat (go_quiet (first | (go_at_call 69; (with_reducible refine (dancestudioref26_Sections.calls k3 a1 _ _ l2 t801 _ ?side1 ?side2 A28.out).mono ?_); (case side1 => repeat (first | exact (Kd.C_below HR2.out HB.out) | (with_reducible refine Kd.C_alloc ?_ _) | (with_reducible refine Kd.C_drewN ?_ _) | (with_reducible refine Kd.C_drew ?_))); (case side2 => exact HC2.out); rintro e w35 ⟨v802, rfl, ho0, hb⟩; have n0_ := Aside0.mk (Kd.R_lower ho0 (below_size (hU HB.out))); have n1_ := Aside0.mk (below_step (hU HB.out) hb); clear HB; have HO803 := n0_; have HB := n1_; clear n0_ n1_; (try clear hb); (try clear hb2); (try clear hk); (try clear hi); (try clear ho0); obtain ⟨Ao36, co36, eo36⟩ := Kd.R_slice HO803.out; subst eo36) | (go_at_call 68; (with_reducible refine (dancestudioref26_total.calls k3 _ _ t801 t804 _ ?side1 ?side2 A29.out).mono ?_); (case side1 => repeat (first | exact (Kd.R_reads' HO803.out).2.2 | (with_reducible refine Kd.C_alloc ?_ _) | (with_reducible refine Kd.C_drewN ?_ _) | (with_reducible refine Kd.C_drew ?_))); (case side2 => exact (Kd.R_reads' HO803.out).2.1); rintro e w' ⟨rfl, ⟨nd, rfl⟩⟩; (try first | exact ⟨rfl, _, World.drewN_drewN _ _ _⟩ | exact ⟨rfl, _, Eq.trans (World.drewN_drewN _ _ _) (congrArg (World.drewN _) (Nat.add_assoc _ _ _))⟩)) | (go_at_call 75; (with_reducible refine (dancestudioref26_performed.calls k3 _ _ l0 _ _ t801 t805 _ ?side1 ?side2 ?side3 ?side4 A33.out).mono ?_); (case side1 => repeat (first | exact (Kd.C_below HR0.out (hU HB.out)) | (with_reducible refine Kd.C_alloc ?_ _) | (with_reducible refine Kd.C_drewN ?_ _) | (with_reducible refine Kd.C_drew ?_))); (case side2 => exact HC0.out); (case side3 => repeat (first | exact (Kd.R_reads' HO803.out).2.2 | (with_reducible refine Kd.C_alloc ?_ _) | (with_reducible refine Kd.C_drewN ?_ _) | (with_reducible refine Kd.C_drew ?_))); (case side4 => exact (Kd.R_reads' HO803.out).2.1); rintro e w37 ⟨v806, rfl, ho0, hb⟩; have n0_ := Aside0.mk (Kd.R_below (Kd.rU HO803.out) hb); have n1_ := Aside0.mk (Kd.R_lower ho0 (below_size (hU HB.out))); have n2_ := Aside0.mk (below_step (hU HB.out) hb); clear HO803; clear HB; have HO803 := n0_; have HO807 := n1_; have HB := n2_; clear n0_ n1_ n2_; (try clear hb); (try clear hb2); (try clear hk); (try clear hi); (try clear ho0); obtain ⟨Ao38, co38, eo38⟩ := Kd.R_slice HO807.out; subst eo38)); try go_wp2_with (first | (go_at_call 69; (with_reducible refine (dancestudioref26_Sections.calls k3 a1 _ _ l2 t801 _ ?side1 ?side2 A28.out).mono ?_); (case side1 => repeat (first | exact (Kd.C_below HR2.out HB.out) | (with_reducible refine Kd.C_alloc ?_ _) | (with_reducible refine Kd.C_drewN ?_ _) | (with_reducible refine Kd.C_drew ?_))); (case side2 => exact HC2.out); rintro e w35 ⟨v802, rfl, ho0, hb⟩; have n0_ := Aside0.mk (Kd.R_lower ho0 (below_size (hU HB.out))); have n1_ := Aside0.mk (below_step (hU HB.out) hb); clear HB; have HO803 := n0_; have HB := n1_; clear n0_ n1_; (try clear hb); (try clear hb2); (try clear hk); (try clear hi); (try clear ho0); obtain ⟨Ao36, co36, eo36⟩ := Kd.R_slice HO803.out; subst eo36) | (go_at_call 68; (with_reducible refine (dancestudioref26_total.calls k3 _ _ t801 t804 _ ?side1 ?side2 A29.out).mono ?_); (case side1 => repeat (first | exact (Kd.R_reads' HO803.out).2.2 | (with_reducible refine Kd.C_alloc ?_ _) | (with_reducible refine Kd.C_drewN ?_ _) | (with_reducible refine Kd.C_drew ?_))); (case side2 => exact (Kd.R_reads' HO803.out).2.1); rintro e w' ⟨rfl, ⟨nd, rfl⟩⟩; (try first | exact ⟨rfl, _, World.drewN_drewN _ _ _⟩ | exact ⟨rfl, _, Eq.trans (World.drewN_drewN _ _ _) (congrArg (World.drewN _) (Nat.add_assoc _ _ _))⟩)) | (go_at_call 75; (with_reducible refine (dancestudioref26_performed.calls k3 _ _ l0 _ _ t801 t805 _ ?side1 ?side2 ?side3 ?side4 A33.out).mono ?_); (case side1 => repeat (first | exact (Kd.C_below HR0.out (hU HB.out)) | (with_reducible refine Kd.C_alloc ?_ _) | (with_reducible refine Kd.C_drewN ?_ _) | (with_reducible refine Kd.C_drew ?_))); (case side2 => exact HC0.out); (case side3 => repeat (first | exact (Kd.R_reads' HO803.out).2.2 | (with_reducible refine Kd.C_alloc ?_ _) | (with_reducible refine Kd.C_drewN ?_ _) | (with_reducible refine Kd.C_drew ?_))); (case side4 => exact (Kd.R_reads' HO803.out).2.1); rintro e w37 ⟨v806, rfl, ho0, hb⟩; have n0_ := Aside0.mk (Kd.R_below (Kd.rU HO803.out) hb); have n1_ := Aside0.mk (Kd.R_lower ho0 (below_size (hU HB.out))); have n2_ := Aside0.mk (below_step (hU HB.out) hb); clear HO803; clear HB; have HO803 := n0_; have HO807 := n1_; have HB := n2_; clear n0_ n1_ n2_; (try clear hb); (try clear hb2); (try clear hk); (try clear hi); (try clear ho0); obtain ⟨Ao38, co38, eo38⟩ := Kd.R_slice HO807.out; subst eo38)))
              go_ret
              exact ⟨by first | rfl | (simp [errW_none, errW_some] <;> rfl) | (simp [*, errW_none, errW_some] <;> rfl), hU HB.out⟩
             ·rw [if_neg c34] at H
              have c34b0 : decide (256 < (t805.length : Int)) = false := decide_eq_false c34
              have c34b1 : decide (256 < t805.length) = false := decide_eq_false (by omega)
              clear c34
              obtain rfl := Option.some.inj H
              go_wp2_with (first | (go_at_call 69; (with_reducible refine (dancestudioref26_Sections.calls k3 a1 _ _ l2 t801 _ ?side1 ?side2 A28.out).mono ?_); (case side1 => repeat (first | exact (Kd.C_below HR2.out HB.out) | (with_reducible refine Kd.C_alloc ?_ _) | (with_reducible refine Kd.C_drewN ?_ _) | (with_reducible refine Kd.C_drew ?_))); (case side2 => exact HC2.out); rintro e w39 ⟨v802, rfl, ho0, hb⟩; have n0_ := Aside0.mk (Kd.R_lower ho0 (below_size (hU HB.out))); have n1_ := Aside0.mk (below_step (hU HB.out) hb); clear HB; have HO803 := n0_; have HB := n1_; clear n0_ n1_; (try clear hb); (try clear hb2); (try clear hk); (try clear hi); (try clear ho0); obtain ⟨Ao40, co40, eo40⟩ := Kd.R_slice HO803.out; subst eo40) | (go_at_call 68; (with_reducible refine (dancestudioref26_total.calls k3 _ _ t801 t804 _ ?side1 ?side2 A29.out).mono ?_); (case side1 => repeat (first | exact (Kd.R_reads' HO803.out).2.2 | (with_reducible refine Kd.C_alloc ?_ _) | (with_reducible refine Kd.C_drewN ?_ _) | (with_reducible refine Kd.C_drew ?_))); (case side2 => exact (Kd.R_reads' HO803.out).2.1); rintro e w' ⟨rfl, ⟨nd, rfl⟩⟩; (try first | exact ⟨rfl, _, World.drewN_drewN _ _ _⟩ | exact ⟨rfl, _, Eq.trans (World.drewN_drewN _ _ _) (congrArg (World.drewN _) (Nat.add_assoc _ _ _))⟩)) | (go_at_call 75; (with_reducible refine (dancestudioref26_performed.calls k3 _ _ l0 _ _ t801 t805 _ ?side1 ?side2 ?side3 ?side4 A33.out).mono ?_); (case side1 => repeat (first | exact (Kd.C_below HR0.out (hU HB.out)) | (with_reducible refine Kd.C_alloc ?_ _) | (with_reducible refine Kd.C_drewN ?_ _) | (with_reducible refine Kd.C_drew ?_))); (case side2 => exact HC0.out); (case side3 => repeat (first | exact (Kd.R_reads' HO803.out).2.2 | (with_reducible refine Kd.C_alloc ?_ _) | (with_reducible refine Kd.C_drewN ?_ _) | (with_reducible refine Kd.C_drew ?_))); (case side4 => exact (Kd.R_reads' HO803.out).2.1); rintro e w41 ⟨v806, rfl, ho0, hb⟩; have n0_ := Aside0.mk (Kd.R_below (Kd.rU HO803.out) hb); have n1_ := Aside0.mk (Kd.R_lower ho0 (below_size (hU HB.out))); have n2_ := Aside0.mk (below_step (hU HB.out) hb); clear HO803; clear HB; have HO803 := n0_; have HO807 := n1_; have HB := n2_; clear n0_ n1_ n2_; (try clear hb); (try clear hb2); (try clear hk); (try clear hi); (try clear ho0); obtain ⟨Ao42, co42, eo42⟩ := Kd.R_slice HO807.out; subst eo42))
              repeat (go_quiet (first | (go_at_call 69; (with_reducible refine (dancestudioref26_Sections.calls k3 a1 _ _ l2 t801 _ ?side1 ?side2 A28.out).mono ?_); (case side1 => repeat (first | exact (Kd.C_below HR2.out HB.out) | (with_reducible refine Kd.C_alloc ?_ _) | (with_reducible refine Kd.C_drewN ?_ _) | (with_reducible refine Kd.C_drew ?_))); (case side2 => exact HC2.out); rintro e w39 ⟨v802, rfl, ho0, hb⟩; have n0_ := Aside0.mk (Kd.R_lower ho0 (below_size (hU HB.out))); have n1_ := Aside0.mk (below_step (hU HB.out) hb); clear HB; have HO803 := n0_; have HB := n1_; clear n0_ n1_; (try clear hb); (try clear hb2); (try clear hk); (try clear hi); (try clear ho0); obtain ⟨Ao40, co40, eo40⟩ := Kd.R_slice HO803.out; subst eo40) | (go_at_call 68; (with_reducible refine (dancestudioref26_total.calls k3 _ _ t801 t804 _ ?side1 ?side2 A29.out).mono ?_); (case side1 => repeat (first | exact (Kd.R_reads' HO803.out).2.2 | (with_reducible refine Kd.C_alloc ?_ _) | (with_reducible refine Kd.C_drewN ?_ _) | (with_reducible refine Kd.C_drew ?_))); (case side2 => exact (Kd.R_reads' HO803.out).2.1); rintro e w' ⟨rfl, ⟨nd, rfl⟩⟩; (try first | exact ⟨rfl, _, World.drewN_drewN _ _ _⟩ | exact ⟨rfl, _, Eq.trans (World.drewN_drewN _ _ _) (congrArg (World.drewN _) (Nat.add_assoc _ _ _))⟩)) | (go_at_call 75; (with_reducible refine (dancestudioref26_performed.calls k3 _ _ l0 _ _ t801 t805 _ ?side1 ?side2 ?side3 ?side4 A33.out).mono ?_); (case side1 => repeat (first | exact (Kd.C_below HR0.out (hU HB.out)) | (with_reducible refine Kd.C_alloc ?_ _) | (with_reducible refine Kd.C_drewN ?_ _) | (with_reducible refine Kd.C_drew ?_))); (case side2 => exact HC0.out); (case side3 => repeat (first | exact (Kd.R_reads' HO803.out).2.2 | (with_reducible refine Kd.C_alloc ?_ _) | (with_reducible refine Kd.C_drewN ?_ _) | (with_reducible refine Kd.C_drew ?_))); (case side4 => exact (Kd.R_reads' HO803.out).2.1); rintro e w41 ⟨v806, rfl, ho0, hb⟩; have n0_ := Aside0.mk (Kd.R_below (Kd.rU HO803.out) hb); have n1_ := Aside0.mk (Kd.R_lower ho0 (below_size (hU HB.out))); have n2_ := Aside0.mk (below_step (hU HB.out) hb); clear HO803; clear HB; have HO803 := n0_; have HO807 := n1_; have HB := n2_; clear n0_ n1_ n2_; (try clear hb); (try clear hb2); (try clear hk); (try clear hi); (try clear ho0); obtain ⟨Ao42, co42, eo42⟩ := Kd.R_slice HO807.out; subst eo42)); try go_wp2_with (first | (go_at_call 69; (with_reducible refine (dancestudioref26_Sections.calls k3 a1 _ _ l2 t801 _ ?side1 ?side2 A28.out).mono ?_); (case side1 => repeat (first | exact (Kd.C_below HR2.out HB.out) | (with_reducible refine Kd.C_alloc ?_ _) | (with_reducible refine Kd.C_drewN ?_ _) | (with_reducible refine Kd.C_drew ?_))); (case side2 => exact HC2.out); rintro e w39 ⟨v802, rfl, ho0, hb⟩; have n0_ := Aside0.mk (Kd.R_lower ho0 (below_size (hU HB.out))); have n1_ := Aside0.mk (below_step (hU HB.out) hb); clear HB; have HO803 := n0_; have HB := n1_; clear n0_ n1_; (try clear hb); (try clear hb2); (try clear hk); (try clear hi); (try clear ho0); obtain ⟨Ao40, co40, eo40⟩ := Kd.R_slice HO803.out; subst eo40) | (go_at_call 68; (with_reducible refine (dancestudioref26_total.calls k3 _ _ t801 t804 _ ?side1 ?side2 A29.out).mono ?_); (case side1 => repeat (first | exact (Kd.R_reads' HO803.out).2.2 | (with_reducible refine Kd.C_alloc ?_ _) | (with_reducible refine Kd.C_drewN ?_ _) | (with_reducible refine Kd.C_drew ?_))); (case side2 => exact (Kd.R_reads' HO803.out).2.1); rintro e w' ⟨rfl, ⟨nd, rfl⟩⟩; (try first | exact ⟨rfl, _, World.drewN_drewN _ _ _⟩ | exact ⟨rfl, _, Eq.trans (World.drewN_drewN _ _ _) (congrArg (World.drewN _) (Nat.add_assoc _ _ _))⟩)) | (go_at_call 75; (with_reducible refine (dancestudioref26_performed.calls k3 _ _ l0 _ _ t801 t805 _ ?side1 ?side2 ?side3 ?side4 A33.out).mono ?_); (case side1 => repeat (first | exact (Kd.C_below HR0.out (hU HB.out)) | (with_reducible refine Kd.C_alloc ?_ _) | (with_reducible refine Kd.C_drewN ?_ _) | (with_reducible refine Kd.C_drew ?_))); (case side2 => exact HC0.out); (case side3 => repeat (first | exact (Kd.R_reads' HO803.out).2.2 | (with_reducible refine Kd.C_alloc ?_ _) | (with_reducible refine Kd.C_drewN ?_ _) | (with_reducible refine Kd.C_drew ?_))); (case side4 => exact (Kd.R_reads' HO803.out).2.1); rintro e w41 ⟨v806, rfl, ho0, hb⟩; have n0_ := Aside0.mk (Kd.R_below (Kd.rU HO803.out) hb); have n1_ := Aside0.mk (Kd.R_lower ho0 (below_size (hU HB.out))); have n2_ := Aside0.mk (below_step (hU HB.out) hb); clear HO803; clear HB; have HO803 := n0_; have HO807 := n1_; have HB := n2_; clear n0_ n1_ n2_; (try clear hb); (try clear hb2); (try clear hk); (try clear hi); (try clear ho0); obtain ⟨Ao42, co42, eo42⟩ := Kd.R_slice HO807.out; subst eo42)))
              go_ret
              exact ⟨by first | rfl | (simp [errW_none, errW_some] <;> rfl) | (simp [*, errW_none, errW_some] <;> rfl), hU HB.out⟩
 ·rw [if_neg c5] at H
  have c5b0 : (t788 == 0) = false := beq_eq_false_iff_ne.mpr c5
  have c5b1 : (t788 != 0) = true := bne_iff_ne.mpr c5
  obtain rfl := Option.some.inj H
  go_enter Try.func41, Try.ntmps41
  go_wp2_with (first | (go_at_call 21; (with_reducible refine (dancestudioref24_Check.calls k _ _ l0 a1 t788 _ ?side1 ?side2 A4.out).mono ?_); (case side1 => repeat (first | exact HR0.out | (with_reducible refine Kd.C_alloc ?_ _) | (with_reducible refine Kd.C_drewN ?_ _) | (with_reducible refine Kd.C_drew ?_))); (case side2 => exact HC0.out); rintro e w43 ⟨rfl, hb⟩; have n0_ := Aside0.mk (below_step (hU HB.out) hb); clear HB; have HB := n0_; clear n0_; (try clear hb); (try clear hb2); (try clear hk); (try clear hi)))
  repeat (go_quiet (first | (go_at_call 21; (with_reducible refine (dancestudioref24_Check.calls k _ _ l0 a1 t788 _ ?side1 ?side2 A4.out).mono ?_); (case side1 => repeat (first | exact HR0.out | (with_reducible refine Kd.C_alloc ?_ _) | (with_reducible refine Kd.C_drewN ?_ _) | (with_reducible refine Kd.C_drew ?_))); (case side2 => exact HC0.out); rintro e w43 ⟨rfl, hb⟩; have n0_ := Aside0.mk (below_step (hU HB.out) hb); clear HB; have HB := n0_; clear n0_; (try clear hb); (try clear hb2); (try clear hk); (try clear hi))); try go_wp2_with (first | (go_at_call 21; (with_reducible refine (dancestudioref24_Check.calls k _ _ l0 a1 t788 _ ?side1 ?side2 A4.out).mono ?_); (case side1 => repeat (first | exact HR0.out | (with_reducible refine Kd.C_alloc ?_ _) | (with_reducible refine Kd.C_drewN ?_ _) | (with_reducible refine Kd.C_drew ?_))); (case side2 => exact HC0.out); rintro e w43 ⟨rfl, hb⟩; have n0_ := Aside0.mk (below_step (hU HB.out) hb); clear HB; have HB := n0_; clear n0_; (try clear hb); (try clear hb2); (try clear hk); (try clear hi))))
  go_ret
  exact ⟨by first | rfl | (simp [errW_none, errW_some] <;> rfl) | (simp [*, errW_none, errW_some] <;> rfl), hU HB.out⟩

end Go.Proofs.Ytdilndbanhianaa.P

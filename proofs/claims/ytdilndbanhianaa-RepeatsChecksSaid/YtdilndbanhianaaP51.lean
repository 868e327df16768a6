-- Written by a program of this session (myprint.py over the kit's print): the Go functions of the seat as Lean functions, and what their calls do.
import Derived.Test.YtdilndbanhianaaVMA
import Derived.Test.YtdilndbanhianaaP43
import Derived.Test.YtdilndbanhianaaP44
import Derived.Test.YtdilndbanhianaaP47
namespace Go.Proofs.Ytdilndbanhianaa.P
open Go.RowKit Go.Proofs.YtdilndbanhianaaW.PrintWords Go.Proofs.YtdilndbanhianaaW.PrintLast Go.Proofs.YtdilndbanhianaaW.PrintMore
attribute [local go_sem] max2_int min2_int max_two min_two max_three min_three max_four min_four   -- for this text's walks alone
set_option linter.unusedVariables false
set_option linter.unusedSimpArgs false

/-! ### dancestudioref26_Source: function 45 -/
mutual
def dancestudioref26_Source.j0 : Nat → Int → List (S88) → Bool → Option (Int × Int)
 | 0, _, _, _ => none
 | k + 1, x3, x11, x30 => if x30 = true then (some (0, 1)) else (dancestudioref26_Source.l0 k x3 x11 0)
def dancestudioref26_Source.l0 : Nat → Int → List (S88) → Int → Option (Int × Int)
 | 0, _, _, _ => none
 | k + 1, x3, x11, x12 => if 0 ≤ x12 then (if x12 < (x11.length : Int) then (if x3 ≥ (wrap64 ((wrap64 (((rd_T88 x11 x12).f1) - ((rd_T88 x11 x12).f0))) * ((rd_T88 x11 x12).f2))) then (dancestudioref26_Source.l0 k (wrap64 (x3 - (wrap64 ((wrap64 (((rd_T88 x11 x12).f1) - ((rd_T88 x11 x12).f0))) * ((rd_T88 x11 x12).f2))))) x11 (wrap64 (x12 + 1))) else (if (wrap64 (((rd_T88 x11 x12).f1) - ((rd_T88 x11 x12).f0))) = 0 then (none) else (some (wrap64 (((rd_T88 x11 x12).f0) + (Int.tmod x3 (wrap64 (((rd_T88 x11 x12).f1) - ((rd_T88 x11 x12).f0))))), 0)))) else (none)) else (none)
end
def dancestudioref26_Source.f (k : Nat) (l0 : List (S29)) (a1 : Int) (l2 : List (S61)) (a3 : Int) : Option (Int × Int) := (dancestudioref26_Check.f k l0 a1 l2).bind fun t830 => (if t830 = 0 then ((dancestudioref26_Sections.f k a1 l2).bind fun t831 => (if a3 < 0 then (dancestudioref26_Source.j0 k a3 t831 true) else ((dancestudioref26_total.f k t831).bind fun t834 => (dancestudioref26_Source.j0 k a3 t831 (decide (a3 ≥ t834)))))) else (some (0, t830)))
theorem dancestudioref26_Source.mono_l : ∀ k, (∀ y0 y1 y2, LeO (dancestudioref26_Source.j0 k y0 y1 y2) (dancestudioref26_Source.j0 (k + 1) y0 y1 y2)) ∧ (∀ y0 y1 y2, LeO (dancestudioref26_Source.l0 k y0 y1 y2) (dancestudioref26_Source.l0 (k + 1) y0 y1 y2))
 | 0 => ⟨fun _ _ _ r h => by simp [dancestudioref26_Source.j0] at h, fun _ _ _ r h => by simp [dancestudioref26_Source.l0] at h⟩
 | k + 1 => by
  obtain ⟨ih0, ih1⟩ := dancestudioref26_Source.mono_l k
  refine ⟨?_, ?_⟩
  ·intro y0 y1 y2
   unfold dancestudioref26_Source.j0
   repeat' first
   | (with_reducible exact ih0 _ _ _)
   | (with_reducible exact ih1 _ _ _)
   | (with_reducible exact dancestudioref26_Check.mono _ _ _ _)
   | (with_reducible exact dancestudioref26_Sections.mono _ _ _)
   | (with_reducible exact dancestudioref26_total.mono _ _)
   | (with_reducible exact LeO.refl _)
   | (with_reducible exact LeO.none _)
   | (with_reducible refine LeO.ite ?_ ?_)
   | (with_reducible refine LeO.bind ?_ (fun _ => ?_))
   | exact ih0 _ _ _
   | exact ih1 _ _ _
   | exact dancestudioref26_Check.mono _ _ _ _
   | exact dancestudioref26_Sections.mono _ _ _
   | exact dancestudioref26_total.mono _ _
   | exact LeO.none _
   | refine LeO.ite ?_ ?_
   | refine LeO.bind ?_ (fun _ => ?_)
  ·intro y0 y1 y2
   unfold dancestudioref26_Source.l0
   repeat' first
   | (with_reducible exact ih0 _ _ _)
   | (with_reducible exact ih1 _ _ _)
   | (with_reducible exact dancestudioref26_Check.mono _ _ _ _)
   | (with_reducible exact dancestudioref26_Sections.mono _ _ _)
   | (with_reducible exact dancestudioref26_total.mono _ _)
   | (with_reducible exact LeO.refl _)
   | (with_reducible exact LeO.none _)
   | (with_reducible refine LeO.ite ?_ ?_)
   | (with_reducible refine LeO.bind ?_ (fun _ => ?_))
   | exact ih0 _ _ _
   | exact ih1 _ _ _
   | exact dancestudioref26_Check.mono _ _ _ _
   | exact dancestudioref26_Sections.mono _ _ _
   | exact dancestudioref26_total.mono _ _
   | exact LeO.none _
   | refine LeO.ite ?_ ?_
   | refine LeO.bind ?_ (fun _ => ?_)
theorem dancestudioref26_Source.mono : ∀ a0 a1 a2 a3 k, LeO (dancestudioref26_Source.f k a0 a1 a2 a3) (dancestudioref26_Source.f (k + 1) a0 a1 a2 a3) := by
 intro a0 a1 a2 a3 k
 obtain ⟨ih0, ih1⟩ := dancestudioref26_Source.mono_l k
 unfold dancestudioref26_Source.f
 repeat' first
   | (with_reducible exact ih0 _ _ _)
   | (with_reducible exact ih1 _ _ _)
   | (with_reducible exact dancestudioref26_Check.mono _ _ _ _)
   | (with_reducible exact dancestudioref26_Sections.mono _ _ _)
   | (with_reducible exact dancestudioref26_total.mono _ _)
   | (with_reducible exact LeO.refl _)
   | (with_reducible exact LeO.none _)
   | (with_reducible refine LeO.ite ?_ ?_)
   | (with_reducible refine LeO.bind ?_ (fun _ => ?_))
   | exact ih0 _ _ _
   | exact ih1 _ _ _
   | exact dancestudioref26_Check.mono _ _ _ _
   | exact dancestudioref26_Sections.mono _ _ _
   | exact dancestudioref26_total.mono _ _
   | exact LeO.none _
   | refine LeO.ite ?_ ?_
   | refine LeO.bind ?_ (fun _ => ?_)
set_option maxHeartbeats 8000000 in
set_option maxRecDepth 100000 in
theorem dancestudioref26_Source.calls (k : Nat) (A0 : Option Addr) (c0 : Nat) (l0 : List (S29)) (a1 : Int) (A2 : Option Addr) (c2 : Nat) (l2 : List (S61)) (a3 : Int) (r1 : Int) (r2 : Int) (w : World) (hr0 : Kd.C k29 w A0 l0.length l0) (hc0 : l0.length ≤ c0) (hr2 : Kd.C k61 w A2 l2.length l2) (hc2 : l2.length ≤ c2) (h : dancestudioref26_Source.f k l0 a1 l2 a3 = some (r1, r2)) :
  Calls Try.prog 45 #[.slice A0 l0.length c0, .int .i64 a1, .slice A2 l2.length c2, .int .i64 a3] w fun e w' => e = .returned (.tuple #[.int .i64 r1, .int .i64 r2]) ∧ Below w.heap.size w w' := by
 have HR0 := Aside0.mk hr0
 have HC0 := Aside0.mk hc0
 clear hr0 hc0
 have HR2 := Aside0.mk hr2
 have HC2 := Aside0.mk hc2
 clear hr2 hc2
 have HB := Aside0.mk (Below.refl w.heap.size w)
 have H : ((dancestudioref26_Check.f k l0 a1 l2).bind fun t830 => (if t830 = 0 then ((dancestudioref26_Sections.f k a1 l2).bind fun t831 => (if a3 < 0 then (dancestudioref26_Source.j0 k a3 t831 true) else ((dancestudioref26_total.f k t831).bind fun t834 => (dancestudioref26_Source.j0 k a3 t831 (decide (a3 ≥ t834)))))) else (some (0, t830)))) = some (r1, r2) := h
 clear h
 replace H := Option.bind_eq_some_iff.mp H
 obtain ⟨t830, A50, H⟩ := H
 try dsimp only at H
 have A5 := Aside0.mk A50
 clear A50
 by_cases c6 : t830 = 0
 ·rw [if_pos c6] at H
  have c6b0 : (t830 == 0) = true := beq_iff_eq.mpr c6
  have c6b1 : (t830 != 0) = false := bne_eq_false_iff_eq.mpr c6
  clear c6
  replace H := Option.bind_eq_some_iff.mp H
  obtain ⟨t831, A70, H⟩ := H
  try dsimp only at H
  have A7 := Aside0.mk A70
  clear A70
  have HC8 := Aside0.mk H
  clear H
  go_enter Try.func45, Try.ntmps45
  go_upto_region 5 with (first | (go_at_call 41; (with_reducible refine (dancestudioref26_Check.calls k _ _ l0 a1 _ _ l2 t830 _ ?side1 ?side2 ?side3 ?side4 A5.out).mono ?_); (case side1 => repeat (first | exact HR0.out | (with_reducible refine Kd.C_alloc ?_ _) | (with_reducible refine Kd.C_drewN ?_ _) | (with_reducible refine Kd.C_drew ?_))); (case side2 => exact HC0.out); (case side3 => repeat (first | exact HR2.out | (with_reducible refine Kd.C_alloc ?_ _) | (with_reducible refine Kd.C_drewN ?_ _) | (with_reducible refine Kd.C_drew ?_))); (case side4 => exact HC2.out); rintro e w9 ⟨rfl, hb⟩; have n0_ := Aside0.mk (below_step (hU HB.out) hb); clear HB; have HB := n0_; clear n0_; (try clear hb); (try clear hb2); (try clear hk); (try clear hi)) | (go_at_call 69; (with_reducible refine (dancestudioref26_Sections.calls k a1 _ _ l2 t831 _ ?side1 ?side2 A7.out).mono ?_); (case side1 => repeat (first | exact (Kd.C_below HR2.out HB.out) | (with_reducible refine Kd.C_alloc ?_ _) | (with_reducible refine Kd.C_drewN ?_ _) | (with_reducible refine Kd.C_drew ?_))); (case side2 => exact HC2.out); rintro e w10 ⟨v832, rfl, ho0, hb⟩; have n0_ := Aside0.mk (Kd.R_lower ho0 (below_size (hU HB.out))); have n1_ := Aside0.mk (below_step (hU HB.out) hb); clear HB; have HO833 := n0_; have HB := n1_; clear n0_ n1_; (try clear hb); (try clear hb2); (try clear hk); (try clear hi); (try clear ho0)))
  repeat (go_quiet (first | (go_at_call 41; (with_reducible refine (dancestudioref26_Check.calls k _ _ l0 a1 _ _ l2 t830 _ ?side1 ?side2 ?side3 ?side4 A5.out).mono ?_); (case side1 => repeat (first | exact HR0.out | (with_reducible refine Kd.C_alloc ?_ _) | (with_reducible refine Kd.C_drewN ?_ _) | (with_reducible refine Kd.C_drew ?_))); (case side2 => exact HC0.out); (case side3 => repeat (first | exact HR2.out | (with_reducible refine Kd.C_alloc ?_ _) | (with_reducible refine Kd.C_drewN ?_ _) | (with_reducible refine Kd.C_drew ?_))); (case side4 => exact HC2.out); rintro e w9 ⟨rfl, hb⟩; have n0_ := Aside0.mk (below_step (hU HB.out) hb); clear HB; have HB := n0_; clear n0_; (try clear hb); (try clear hb2); (try clear hk); (try clear hi)) | (go_at_call 69; (with_reducible refine (dancestudioref26_Sections.calls k a1 _ _ l2 t831 _ ?side1 ?side2 A7.out).mono ?_); (case side1 => repeat (first | exact (Kd.C_below HR2.out HB.out) | (with_reducible refine Kd.C_alloc ?_ _) | (with_reducible refine Kd.C_drewN ?_ _) | (with_reducible refine Kd.C_drew ?_))); (case side2 => exact HC2.out); rintro e w10 ⟨v832, rfl, ho0, hb⟩; have n0_ := Aside0.mk (Kd.R_lower ho0 (below_size (hU HB.out))); have n1_ := Aside0.mk (below_step (hU HB.out) hb); clear HB; have HO833 := n0_; have HB := n1_; clear n0_ n1_; (try clear hb); (try clear hb2); (try clear hk); (try clear hi); (try clear ho0))); go_upto_region 5 with (first | (go_at_call 41; (with_reducible refine (dancestudioref26_Check.calls k _ _ l0 a1 _ _ l2 t830 _ ?side1 ?side2 ?side3 ?side4 A5.out).mono ?_); (case side1 => repeat (first | exact HR0.out | (with_reducible refine Kd.C_alloc ?_ _) | (with_reducible refine Kd.C_drewN ?_ _) | (with_reducible refine Kd.C_drew ?_))); (case side2 => exact HC0.out); (case side3 => repeat (first | exact HR2.out | (with_reducible refine Kd.C_alloc ?_ _) | (with_reducible refine Kd.C_drewN ?_ _) | (with_reducible refine Kd.C_drew ?_))); (case side4 => exact HC2.out); rintro e w9 ⟨rfl, hb⟩; have n0_ := Aside0.mk (below_step (hU HB.out) hb); clear HB; have HB := n0_; clear n0_; (try clear hb); (try clear hb2); (try clear hk); (try clear hi)) | (go_at_call 69; (with_reducible refine (dancestudioref26_Sections.calls k a1 _ _ l2 t831 _ ?side1 ?side2 A7.out).mono ?_); (case side1 => repeat (first | exact (Kd.C_below HR2.out HB.out) | (with_reducible refine Kd.C_alloc ?_ _) | (with_reducible refine Kd.C_drewN ?_ _) | (with_reducible refine Kd.C_drew ?_))); (case side2 => exact HC2.out); rintro e w10 ⟨v832, rfl, ho0, hb⟩; have n0_ := Aside0.mk (Kd.R_lower ho0 (below_size (hU HB.out))); have n1_ := Aside0.mk (below_step (hU HB.out) hb); clear HB; have HO833 := n0_; have HB := n1_; clear n0_ n1_; (try clear hb); (try clear hb2); (try clear hk); (try clear hi); (try clear ho0))))
  (try simp only [Act.put, List.setIfInBounds_toArray, List.set_cons_zero, List.set_cons_succ])
  go_cut [30] (fun v30 wc => ∃ (kq : Nat) (x30_7 : Bool), v30 = .bool x30_7 ∧ Aside0 (dancestudioref26_Source.j0 kq a3 t831 x30_7 = some (r1, r2)) ∧ Aside0 (kq ≤ k) ∧ Aside0 (Kd.R k88 88 wc w.heap.size (fun _ => True) v832 t831) ∧ Aside0 (Below w.heap.size w wc))
  case first =>
   have H := HC8.out
   clear HC8
   by_cases c11 : a3 < 0
   ·rw [if_pos c11] at H
    have c11b0 : decide (a3 < 0) = true := decide_eq_true c11
    clear c11
    (first | rw [c11b0] | (simp only [i64_w, i32_w]; rw [c11b0]) | skip)
    have H' := Aside0.mk H
    clear H
    go_wp2
    repeat (go_quiet (fail); try go_wp2)
    go_meet
    case rel => exact ⟨_, (true), (by first | rfl | (simp; done) | (simp [*]; done)), H', ⟨by first | omega | exact Nat.le_refl _⟩, ⟨by (with_reducible repeat (first | apply Kd.R_alloc | apply Kd.R_drewN | apply Kd.R_drew)); exact HO833.out⟩, ⟨hU HB.out⟩⟩
   ·rw [if_neg c11] at H
    have c11b0 : decide (a3 < 0) = false := decide_eq_false c11
    clear c11
    (first | rw [c11b0] | (simp only [i64_w, i32_w]; rw [c11b0]) | skip)
    replace H := Option.bind_eq_some_iff.mp H
    obtain ⟨t834, A120, H⟩ := H
    replace H : (dancestudioref26_Source.j0 k a3 t831 (decide (a3 ≥ t834))) = some (r1, r2) := H
    have A12 := Aside0.mk A120
    clear A120
    have H' := Aside0.mk H
    clear H
    obtain ⟨Ao13, co13, eo13⟩ := Kd.R_slice HO833.out
    subst eo13
    go_wp2_with (first | (go_at_call 68; (with_reducible refine (dancestudioref26_total.calls k _ _ t831 t834 _ ?side1 ?side2 A12.out).mono ?_); (case side1 => repeat (first | exact (Kd.R_reads' HO833.out).2.2 | (with_reducible refine Kd.C_alloc ?_ _) | (with_reducible refine Kd.C_drewN ?_ _) | (with_reducible refine Kd.C_drew ?_))); (case side2 => exact (Kd.R_reads' HO833.out).2.1); rintro e w' ⟨rfl, ⟨nd, rfl⟩⟩; (try first | exact ⟨rfl, _, World.drewN_drewN _ _ _⟩ | exact ⟨rfl, _, Eq.trans (World.drewN_drewN _ _ _) (congrArg (World.drewN _) (Nat.add_assoc _ _ _))⟩)))
    repeat (go_quiet (first | (go_at_call 68; (with_reducible refine (dancestudioref26_total.calls k _ _ t831 t834 _ ?side1 ?side2 A12.out).mono ?_); (case side1 => repeat (first | exact (Kd.R_reads' HO833.out).2.2 | (with_reducible refine Kd.C_alloc ?_ _) | (with_reducible refine Kd.C_drewN ?_ _) | (with_reducible refine Kd.C_drew ?_))); (case side2 => exact (Kd.R_reads' HO833.out).2.1); rintro e w' ⟨rfl, ⟨nd, rfl⟩⟩; (try first | exact ⟨rfl, _, World.drewN_drewN _ _ _⟩ | exact ⟨rfl, _, Eq.trans (World.drewN_drewN _ _ _) (congrArg (World.drewN _) (Nat.add_assoc _ _ _))⟩))); try go_wp2_with (first | (go_at_call 68; (with_reducible refine (dancestudioref26_total.calls k _ _ t831 t834 _ ?side1 ?side2 A12.out).mono ?_); (case side1 => repeat (first | exact (Kd.R_reads' HO833.out).2.2 | (with_reducible refine Kd.C_alloc ?_ _) | (with_reducible refine Kd.C_drewN ?_ _) | (with_reducible refine Kd.C_drew ?_))); (case side2 => exact (Kd.R_reads' HO833.out).2.1); rintro e w' ⟨rfl, ⟨nd, rfl⟩⟩; (try first | exact ⟨rfl, _, World.drewN_drewN _ _ _⟩ | exact ⟨rfl, _, Eq.trans (World.drewN_drewN _ _ _) (congrArg (World.drewN _) (Nat.add_assoc _ _ _))⟩))))
    go_meet
    case rel => exact ⟨_, (decide (a3 ≥ t834)), (by first | rfl | (simp; done) | (simp [*]; done)), H', ⟨by first | omega | exact Nat.le_refl _⟩, ⟨by (with_reducible repeat (first | apply Kd.R_alloc | apply Kd.R_drewN | apply Kd.R_drew)); exact HO833.out⟩, ⟨hU HB.out⟩⟩
  case rest =>
   clear HC8
   try clear c1
   try clear c2
   try clear p2
   try clear c4
   try clear c6
   try clear c6b0
   try clear c6b1
   try clear c11
   try clear c11b0
   obtain ⟨kq, x30_7, rfl, HA, HJ7, HO_11, HB⟩ := hcut
   cases kq with
   | zero => exact absurd HA.out (by simp [dancestudioref26_Source.j0])
   | succ kj7 =>
    have H := HA.out
    clear HA
    simp only [dancestudioref26_Source.j0] at H
    by_cases c14 : x30_7 = true
    ·subst c14
     have H1 : (some (0, 1)) = some (r1, r2) := by rw [if_pos rfl] at H; exact H
     clear H
     have H := H1
     clear H1
     simp only [Option.some.injEq, Prod.mk.injEq] at H
     obtain ⟨rfl, rfl⟩ := H
     go_wp2
     repeat (go_quiet (fail); try go_wp2)
     go_ret2
     exact ⟨by first | rfl | (simp [errW_none, errW_some] <;> rfl) | (simp [*, errW_none, errW_some] <;> rfl), hU HB.out⟩
    ·replace c14 := Bool.eq_false_iff.mpr c14
     subst c14
     have H1 : (dancestudioref26_Source.l0 kj7 a3 t831 0) = some (r1, r2) := by rw [if_neg (show ¬ (false = true) by decide)] at H; exact H
     clear H
     have H := H1
     clear H1
     have H' := Aside0.mk H
     clear H
     go_wp2
     repeat (go_quiet (fail); try go_wp2)
     go_loopg [3, 12] kj7 (fun kq v3 v12 w' => ∃ (x3_2 : Int) (x12_2 : Int), v3 = .int .i64 x3_2 ∧ v12 = .int .i64 x12_2 ∧ Aside0 (dancestudioref26_Source.l0 kq x3_2 t831 x12_2 = some (r1, r2)) ∧ Aside0 (kq ≤ kj7) ∧ Aside0 (Kd.R k88 88 w' w.heap.size (fun _ => True) v832 t831) ∧ Aside0 (Below w.heap.size w w'))
     case atStart => exact ⟨(a3), (0), (by first | rfl | (simp; done) | (simp [*]; done)), (by first | rfl | (simp; done) | (simp [*]; done)), H', ⟨Nat.le_refl _⟩, ⟨by (with_reducible repeat (first | apply Kd.R_alloc | apply Kd.R_drewN | apply Kd.R_drew)); exact HO_11.out⟩, ⟨hU HB.out⟩⟩
     case round =>
      clear H'
      try clear c1
      try clear c2
      try clear p2
      try clear c4
      try clear c6
      try clear c6b0
      try clear c6b1
      try clear c11
      try clear c11b0
      try clear c14
      try clear p2
      obtain ⟨x3_2, x12_2, rfl, rfl, HA, HK2, HO_11, HB⟩ := hrel
      cases gk with
      | zero => exact absurd HA.out (by simp [dancestudioref26_Source.l0])
      | succ k2 =>
       have H := HA.out
       clear HA
       simp only [dancestudioref26_Source.l0] at H
       by_cases c15 : 0 ≤ x12_2
       ·rw [if_pos c15] at H
        have c15b0 : decide (0 ≤ x12_2) = true := decide_eq_true c15
        clear c15
        by_cases c16 : x12_2 < (t831.length : Int)
        ·rw [if_pos c16] at H
         have c16b0 : decide (x12_2 < (t831.length : Int)) = true := decide_eq_true c16
         clear c16
         by_cases c17 : x3_2 ≥ (wrap64 ((wrap64 (((rd_T88 t831 x12_2).f1) - ((rd_T88 t831 x12_2).f0))) * ((rd_T88 t831 x12_2).f2)))
         ·rw [if_pos c17] at H
          have c17b0 : decide ((wrap64 ((wrap64 (((rd_T88 t831 x12_2).f1) - ((rd_T88 t831 x12_2).f0))) * ((rd_T88 t831 x12_2).f2))) ≤ x3_2) = true := decide_eq_true c17
          clear c17
          have H' := Aside0.mk H
          clear H
          obtain ⟨Ao18, co18, eo18⟩ := Kd.R_slice HO_11.out
          subst eo18
          have p835 : 0 ≤ (x12_2 : Int) := of_decide_eq_true (by first | (with_reducible assumption) | assumption)
          have q835 : x12_2 < (t831.length : Int) := of_decide_eq_true (by first | (with_reducible assumption) | assumption)
          obtain ⟨ad835, e835, hx835_0, hx835_1, hx835_2⟩ := at_T88 (Kd.R_reads' HO_11.out).2.2 x12_2 p835 q835
          cases e835
          replace p835 := eq_true p835
          replace q835 := eq_true q835
          have p836 : 0 ≤ (x12_2 : Int) := of_decide_eq_true (by first | (with_reducible assumption) | assumption)
          have q836 : x12_2 < (t831.length : Int) := of_decide_eq_true (by first | (with_reducible assumption) | assumption)
          obtain ⟨ad836, e836, hx836_0, hx836_1, hx836_2⟩ := at_T88 (Kd.R_reads' HO_11.out).2.2 x12_2 p836 q836
          obtain rfl : ad835 = ad836 := (by injection e836)
          replace p836 := eq_true p836
          replace q836 := eq_true q836
          have p837 : 0 ≤ (x12_2 : Int) := of_decide_eq_true (by first | (with_reducible assumption) | assumption)
          have q837 : x12_2 < (t831.length : Int) := of_decide_eq_true (by first | (with_reducible assumption) | assumption)
          obtain ⟨ad837, e837, hx837_0, hx837_1, hx837_2⟩ := at_T88 (Kd.R_reads' HO_11.out).2.2 x12_2 p837 q837
          obtain rfl : ad835 = ad837 := (by injection e837)
          replace p837 := eq_true p837
          replace q837 := eq_true q837
          have p838 : 0 ≤ (x12_2 : Int) := of_decide_eq_true (by first | (with_reducible assumption) | assumption)
          have q838 : x12_2 < (t831.length : Int) := of_decide_eq_true (by first | (with_reducible assumption) | assumption)
          obtain ⟨ad838, e838, hx838_0, hx838_1, hx838_2⟩ := at_T88 (Kd.R_reads' HO_11.out).2.2 x12_2 p838 q838
          obtain rfl : ad835 = ad838 := (by injection e838)
          replace p838 := eq_true p838
          replace q838 := eq_true q838
          have p839 : 0 ≤ (x12_2 : Int) := of_decide_eq_true (by first | (with_reducible assumption) | assumption)
          have q839 : x12_2 < (t831.length : Int) := of_decide_eq_true (by first | (with_reducible assumption) | assumption)
          obtain ⟨ad839, e839, hx839_0, hx839_1, hx839_2⟩ := at_T88 (Kd.R_reads' HO_11.out).2.2 x12_2 p839 q839
          obtain rfl : ad835 = ad839 := (by injection e839)
          replace p839 := eq_true p839
          replace q839 := eq_true q839
          have p840 : 0 ≤ (x12_2 : Int) := of_decide_eq_true (by first | (with_reducible assumption) | assumption)
          have q840 : x12_2 < (t831.length : Int) := of_decide_eq_true (by first | (with_reducible assumption) | assumption)
          obtain ⟨ad840, e840, hx840_0, hx840_1, hx840_2⟩ := at_T88 (Kd.R_reads' HO_11.out).2.2 x12_2 p840 q840
          obtain rfl : ad835 = ad840 := (by injection e840)
          replace p840 := eq_true p840
          replace q840 := eq_true q840
          go_wp2
          repeat (go_quiet (fail); try go_wp2)
          go_roundg k2
          case measure => have := HJ7.out; have := HK2.out; omega
          case rel => exact ⟨(wrap64 (x3_2 - (wrap64 ((wrap64 (((rd_T88 t831 x12_2).f1) - ((rd_T88 t831 x12_2).f0))) * ((rd_T88 t831 x12_2).f2))))), (wrap64 (x12_2 + 1)), (by first | rfl | (simp; done) | (simp [*]; done)), (by first | rfl | (simp; done) | (simp [*]; done)), H', ⟨by have := HJ7.out; have := HK2.out; omega⟩, ⟨by (with_reducible repeat (first | apply Kd.R_alloc | apply Kd.R_drewN | apply Kd.R_drew)); exact HO_11.out⟩, ⟨hU HB.out⟩⟩
         ·rw [if_neg c17] at H
          have c17b0 : decide ((wrap64 ((wrap64 (((rd_T88 t831 x12_2).f1) - ((rd_T88 t831 x12_2).f0))) * ((rd_T88 t831 x12_2).f2))) ≤ x3_2) = false := decide_eq_false c17
          clear c17
          by_cases c19 : (wrap64 (((rd_T88 t831 x12_2).f1) - ((rd_T88 t831 x12_2).f0))) = 0
          ·rw [if_pos c19] at H
           exact absurd H (by simp)
          ·rw [if_neg c19] at H
           have c19b0 : ((wrap64 (((rd_T88 t831 x12_2).f1) - ((rd_T88 t831 x12_2).f0))) == 0) = false := beq_eq_false_iff_ne.mpr c19
           have c19b1 : ((wrap64 (((rd_T88 t831 x12_2).f1) - ((rd_T88 t831 x12_2).f0))) != 0) = true := bne_iff_ne.mpr c19
           simp only [Option.some.injEq, Prod.mk.injEq] at H
           obtain ⟨rfl, rfl⟩ := H
           obtain ⟨Ao20, co20, eo20⟩ := Kd.R_slice HO_11.out
           subst eo20
           have p835 : 0 ≤ (x12_2 : Int) := of_decide_eq_true (by first | (with_reducible assumption) | assumption)
           have q835 : x12_2 < (t831.length : Int) := of_decide_eq_true (by first | (with_reducible assumption) | assumption)
           obtain ⟨ad835, e835, hx835_0, hx835_1, hx835_2⟩ := at_T88 (Kd.R_reads' HO_11.out).2.2 x12_2 p835 q835
           cases e835
           replace p835 := eq_true p835
           replace q835 := eq_true q835
           have p836 : 0 ≤ (x12_2 : Int) := of_decide_eq_true (by first | (with_reducible assumption) | assumption)
           have q836 : x12_2 < (t831.length : Int) := of_decide_eq_true (by first | (with_reducible assumption) | assumption)
           obtain ⟨ad836, e836, hx836_0, hx836_1, hx836_2⟩ := at_T88 (Kd.R_reads' HO_11.out).2.2 x12_2 p836 q836
           obtain rfl : ad835 = ad836 := (by injection e836)
           replace p836 := eq_true p836
           replace q836 := eq_true q836
           have p837 : 0 ≤ (x12_2 : Int) := of_decide_eq_true (by first | (with_reducible assumption) | assumption)
           have q837 : x12_2 < (t831.length : Int) := of_decide_eq_true (by first | (with_reducible assumption) | assumption)
           obtain ⟨ad837, e837, hx837_0, hx837_1, hx837_2⟩ := at_T88 (Kd.R_reads' HO_11.out).2.2 x12_2 p837 q837
           obtain rfl : ad835 = ad837 := (by injection e837)
           replace p837 := eq_true p837
           replace q837 := eq_true q837
           have p841 : 0 ≤ (x12_2 : Int) := of_decide_eq_true (by first | (with_reducible assumption) | assumption)
           have q841 : x12_2 < (t831.length : Int) := of_decide_eq_true (by first | (with_reducible assumption) | assumption)
           obtain ⟨ad841, e841, hx841_0, hx841_1, hx841_2⟩ := at_T88 (Kd.R_reads' HO_11.out).2.2 x12_2 p841 q841
           obtain rfl : ad835 = ad841 := (by injection e841)
           replace p841 := eq_true p841
           replace q841 := eq_true q841
           have p842 : 0 ≤ (x12_2 : Int) := of_decide_eq_true (by first | (with_reducible assumption) | assumption)
           have q842 : x12_2 < (t831.length : Int) := of_decide_eq_true (by first | (with_reducible assumption) | assumption)
           obtain ⟨ad842, e842, hx842_0, hx842_1, hx842_2⟩ := at_T88 (Kd.R_reads' HO_11.out).2.2 x12_2 p842 q842
           obtain rfl : ad835 = ad842 := (by injection e842)
           replace p842 := eq_true p842
           replace q842 := eq_true q842
           have p843 : 0 ≤ (x12_2 : Int) := of_decide_eq_true (by first | (with_reducible assumption) | assumption)
           have q843 : x12_2 < (t831.length : Int) := of_decide_eq_true (by first | (with_reducible assumption) | assumption)
           obtain ⟨ad843, e843, hx843_0, hx843_1, hx843_2⟩ := at_T88 (Kd.R_reads' HO_11.out).2.2 x12_2 p843 q843
           obtain rfl : ad835 = ad843 := (by injection e843)
           replace p843 := eq_true p843
           replace q843 := eq_true q843
           go_wp2
           repeat (go_quiet (fail); try go_wp2)
           go_ret2
           exact ⟨by first | rfl | (simp [errW_none, errW_some] <;> rfl) | (simp [*, errW_none, errW_some] <;> rfl), hU HB.out⟩
        ·rw [if_neg c16] at H
         exact absurd H (by simp)
       ·rw [if_neg c15] at H
        exact absurd H (by simp)
 ·rw [if_neg c6] at H
  have c6b0 : (t830 == 0) = false := beq_eq_false_iff_ne.mpr c6
  have c6b1 : (t830 != 0) = true := bne_iff_ne.mpr c6
  simp only [Option.some.injEq, Prod.mk.injEq] at H
  obtain ⟨rfl, rfl⟩ := H
  go_enter Try.func45, Try.ntmps45
  go_wp2_with (first | (go_at_call 41; (with_reducible refine (dancestudioref26_Check.calls k _ _ l0 a1 _ _ l2 t830 _ ?side1 ?side2 ?side3 ?side4 A5.out).mono ?_); (case side1 => repeat (first | exact HR0.out | (with_reducible refine Kd.C_alloc ?_ _) | (with_reducible refine Kd.C_drewN ?_ _) | (with_reducible refine Kd.C_drew ?_))); (case side2 => exact HC0.out); (case side3 => repeat (first | exact HR2.out | (with_reducible refine Kd.C_alloc ?_ _) | (with_reducible refine Kd.C_drewN ?_ _) | (with_reducible refine Kd.C_drew ?_))); (case side4 => exact HC2.out); rintro e w21 ⟨rfl, hb⟩; have n0_ := Aside0.mk (below_step (hU HB.out) hb); clear HB; have HB := n0_; clear n0_; (try clear hb); (try clear hb2); (try clear hk); (try clear hi)))
  repeat (go_quiet (first | (go_at_call 41; (with_reducible refine (dancestudioref26_Check.calls k _ _ l0 a1 _ _ l2 t830 _ ?side1 ?side2 ?side3 ?side4 A5.out).mono ?_); (case side1 => repeat (first | exact HR0.out | (with_reducible refine Kd.C_alloc ?_ _) | (with_reducible refine Kd.C_drewN ?_ _) | (with_reducible refine Kd.C_drew ?_))); (case side2 => exact HC0.out); (case side3 => repeat (first | exact HR2.out | (with_reducible refine Kd.C_alloc ?_ _) | (with_reducible refine Kd.C_drewN ?_ _) | (with_reducible refine Kd.C_drew ?_))); (case side4 => exact HC2.out); rintro e w21 ⟨rfl, hb⟩; have n0_ := Aside0.mk (below_step (hU HB.out) hb); clear HB; have HB := n0_; clear n0_; (try clear hb); (try clear hb2); (try clear hk); (try clear hi))); try go_wp2_with (first | (go_at_call 41; (with_reducible refine (dancestudioref26_Check.calls k _ _ l0 a1 _ _ l2 t830 _ ?side1 ?side2 ?side3 ?side4 A5.out).mono ?_); (case side1 => repeat (first | exact HR0.out | (with_reducible refine Kd.C_alloc ?_ _) | (with_reducible refine Kd.C_drewN ?_ _) | (with_reducible refine Kd.C_drew ?_))); (case side2 => exact HC0.out); (case side3 => repeat (first | exact HR2.out | (with_reducible refine Kd.C_alloc ?_ _) | (with_reducible refine Kd.C_drewN ?_ _) | (with_reducible refine Kd.C_drew ?_))); (case side4 => exact HC2.out); rintro e w21 ⟨rfl, hb⟩; have n0_ := Aside0.mk (below_step (hU HB.out) hb); clear HB; have HB := n0_; clear n0_; (try clear hb); (try clear hb2); (try clear hk); (try clear hi))))
  go_ret2
  exact ⟨by first | rfl | (simp [errW_none, errW_some] <;> rfl) | (simp [*, errW_none, errW_some] <;> rfl), hU HB.out⟩

end Go.Proofs.Ytdilndbanhianaa.P

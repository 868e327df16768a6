-- Written by a program of this session (myprint.py over the kit's print): the Go functions of the seat as Lean functions, and what their calls do.
import Derived.Test.YtdilndbanhianaaUReg
import Derived.Test.YtdilndbanhianaaUMA
import Derived.Test.YtdilndbanhianaaUMB
namespace Go.Proofs.Ytdilndbanhianaa.P
open Go.RowKit Go.Proofs.YtdilndbanhianaaW.PrintWords Go.Proofs.YtdilndbanhianaaW.PrintLast Go.Proofs.YtdilndbanhianaaW.PrintMore
attribute [local go_sem] max2_int min2_int max_two min_two max_three min_three max_four min_four   -- for this text's walks alone
set_option linter.unusedVariables false
set_option linter.unusedSimpArgs false

/-! ### dancestudioref24_At: function 31 -/
mutual
def dancestudioref24_At.j0 : Nat → List (S29) → Int → Int → Int → Bool → Option (Int × Int)
 | 0, _, _, _, _, _ => none
 | k + 1, x0, x1, x2, x3, x23 => if x23 = true then (some (0, 16)) else (if x3 < 0 then (dancestudioref24_At.j1 k x0 x2 x3 true) else (dancestudioref24_At.j1 k x0 x2 x3 (decide (x3 ≥ x1))))
def dancestudioref24_At.j1 : Nat → List (S29) → Int → Int → Bool → Option (Int × Int)
 | 0, _, _, _, _ => none
 | k + 1, x0, x2, x3, x30 => if x30 = true then (some (0, 1)) else (dancestudioref24_At.l0 k x0 x2 x3 0)
def dancestudioref24_At.l0 : Nat → List (S29) → Int → Int → Int → Option (Int × Int)
 | 0, _, _, _, _ => none
 | k + 1, x0, x2, x3, x11 => if x11 < (x0.length : Int) then (if 0 ≤ x11 then (if ((rd_T29 x0 x11).f1) = x2 then (if ((rd_T29 x0 x11).f2) ≤ x3 then ((dancestudioref24_end.f ((rd_T29 x0 x11).f0) ((rd_T29 x0 x11).f1) ((rd_T29 x0 x11).f2) ((rd_T29 x0 x11).f3) ((rd_T29 x0 x11).f4) ((rd_T29 x0 x11).f5) ((rd_T29 x0 x11).f6)).bind fun t363 => (if x3 < t363 then (some (x11, 0)) else (dancestudioref24_At.l0 k x0 x2 x3 (wrap64 (x11 + 1))))) else (dancestudioref24_At.l0 k x0 x2 x3 (wrap64 (x11 + 1)))) else (dancestudioref24_At.l0 k x0 x2 x3 (wrap64 (x11 + 1)))) else (none)) else (some ((-1), 0))
end
def dancestudioref24_At.f (k : Nat) (l0 : List (S29)) (a1 : Int) (a2 : Int) (a3 : Int) : Option (Int × Int) := (dancestudioref24_Check.f k l0 a1).bind fun t359 => (if t359 = 0 then (if a2 < 0 then (dancestudioref24_At.j0 k l0 a1 a2 a3 true) else (dancestudioref24_At.j0 k l0 a1 a2 a3 (decide (a2 ≥ 9)))) else (some (0, t359)))
theorem dancestudioref24_At.mono_l : ∀ k, (∀ y0 y1 y2 y3 y4, LeO (dancestudioref24_At.j0 k y0 y1 y2 y3 y4) (dancestudioref24_At.j0 (k + 1) y0 y1 y2 y3 y4)) ∧ (∀ y0 y1 y2 y3, LeO (dancestudioref24_At.j1 k y0 y1 y2 y3) (dancestudioref24_At.j1 (k + 1) y0 y1 y2 y3)) ∧ (∀ y0 y1 y2 y3, LeO (dancestudioref24_At.l0 k y0 y1 y2 y3) (dancestudioref24_At.l0 (k + 1) y0 y1 y2 y3))
 | 0 => ⟨fun _ _ _ _ _ r h => by simp [dancestudioref24_At.j0] at h, fun _ _ _ _ r h => by simp [dancestudioref24_At.j1] at h, fun _ _ _ _ r h => by simp [dancestudioref24_At.l0] at h⟩
 | k + 1 => by
  obtain ⟨ih0, ih1, ih2⟩ := dancestudioref24_At.mono_l k
  refine ⟨?_, ?_, ?_⟩
  ·intro y0 y1 y2 y3 y4
   unfold dancestudioref24_At.j0
   repeat' first
   | (with_reducible exact ih0 _ _ _ _ _)
   | (with_reducible exact ih1 _ _ _ _)
   | (with_reducible exact ih2 _ _ _ _)
   | (with_reducible exact dancestudioref24_Check.mono _ _ _)
   | (with_reducible exact LeO.refl _)
   | (with_reducible exact LeO.none _)
   | (with_reducible refine LeO.ite ?_ ?_)
   | (with_reducible refine LeO.bind ?_ (fun _ => ?_))
   | exact ih0 _ _ _ _ _
   | exact ih1 _ _ _ _
   | exact ih2 _ _ _ _
   | exact dancestudioref24_Check.mono _ _ _
   | exact LeO.none _
   | refine LeO.ite ?_ ?_
   | refine LeO.bind ?_ (fun _ => ?_)
  ·intro y0 y1 y2 y3
   unfold dancestudioref24_At.j1
   repeat' first
   | (with_reducible exact ih0 _ _ _ _ _)
   | (with_reducible exact ih1 _ _ _ _)
   | (with_reducible exact ih2 _ _ _ _)
   | (with_reducible exact dancestudioref24_Check.mono _ _ _)
   | (with_reducible exact LeO.refl _)
   | (with_reducible exact LeO.none _)
   | (with_reducible refine LeO.ite ?_ ?_)
   | (with_reducible refine LeO.bind ?_ (fun _ => ?_))
   | exact ih0 _ _ _ _ _
   | exact ih1 _ _ _ _
   | exact ih2 _ _ _ _
   | exact dancestudioref24_Check.mono _ _ _
   | exact LeO.none _
   | refine LeO.ite ?_ ?_
   | refine LeO.bind ?_ (fun _ => ?_)
  ·intro y0 y1 y2 y3
   unfold dancestudioref24_At.l0
   repeat' first
   | (with_reducible exact ih0 _ _ _ _ _)
   | (with_reducible exact ih1 _ _ _ _)
   | (with_reducible exact ih2 _ _ _ _)
   | (with_reducible exact dancestudioref24_Check.mono _ _ _)
   | (with_reducible exact LeO.refl _)
   | (with_reducible exact LeO.none _)
   | (with_reducible refine LeO.ite ?_ ?_)
   | (with_reducible refine LeO.bind ?_ (fun _ => ?_))
   | exact ih0 _ _ _ _ _
   | exact ih1 _ _ _ _
   | exact ih2 _ _ _ _
   | exact dancestudioref24_Check.mono _ _ _
   | exact LeO.none _
   | refine LeO.ite ?_ ?_
   | refine LeO.bind ?_ (fun _ => ?_)
theorem dancestudioref24_At.mono : ∀ a0 a1 a2 a3 k, LeO (dancestudioref24_At.f k a0 a1 a2 a3) (dancestudioref24_At.f (k + 1) a0 a1 a2 a3) := by
 intro a0 a1 a2 a3 k
 obtain ⟨ih0, ih1, ih2⟩ := dancestudioref24_At.mono_l k
 unfold dancestudioref24_At.f
 repeat' first
   | (with_reducible exact ih0 _ _ _ _ _)
   | (with_reducible exact ih1 _ _ _ _)
   | (with_reducible exact ih2 _ _ _ _)
   | (with_reducible exact dancestudioref24_Check.mono _ _ _)
   | (with_reducible exact LeO.refl _)
   | (with_reducible exact LeO.none _)
   | (with_reducible refine LeO.ite ?_ ?_)
   | (with_reducible refine LeO.bind ?_ (fun _ => ?_))
   | exact ih0 _ _ _ _ _
   | exact ih1 _ _ _ _
   | exact ih2 _ _ _ _
   | exact dancestudioref24_Check.mono _ _ _
   | exact LeO.none _
   | refine LeO.ite ?_ ?_
   | refine LeO.bind ?_ (fun _ => ?_)
set_option maxHeartbeats 8000000 in
set_option maxRecDepth 100000 in
theorem dancestudioref24_At.calls (k : Nat) (A0 : Option Addr) (c0 : Nat) (l0 : List (S29)) (a1 : Int) (a2 : Int) (a3 : Int) (r1 : Int) (r2 : Int) (w : World) (hr0 : Kd.C k29 w A0 l0.length l0) (hc0 : l0.length ≤ c0) (h : dancestudioref24_At.f k l0 a1 a2 a3 = some (r1, r2)) :
  Calls Try.prog 31 #[.slice A0 l0.length c0, .int .i64 a1, .int .i64 a2, .int .i64 a3] w fun e w' => e = .returned (.tuple #[.int .i64 r1, .int .i64 r2]) ∧ Below w.heap.size w w' := by
 have hu29 := Try.underlying29
 have HR0 := Aside0.mk hr0
 have HC0 := Aside0.mk hc0
 clear hr0 hc0
 have HB := Aside0.mk (Below.refl w.heap.size w)
 have H : ((dancestudioref24_Check.f k l0 a1).bind fun t359 => (if t359 = 0 then (if a2 < 0 then (dancestudioref24_At.j0 k l0 a1 a2 a3 true) else (dancestudioref24_At.j0 k l0 a1 a2 a3 (decide (a2 ≥ 9)))) else (some (0, t359)))) = some (r1, r2) := h
 clear h
 replace H := Option.bind_eq_some_iff.mp H
 obtain ⟨t359, A50, H⟩ := H
 try dsimp only at H
 have A5 := Aside0.mk A50
 clear A50
 by_cases c6 : t359 = 0
 ·rw [if_pos c6] at H
  have c6b0 : (t359 == 0) = true := beq_iff_eq.mpr c6
  have c6b1 : (t359 != 0) = false := bne_eq_false_iff_eq.mpr c6
  clear c6
  have HC7 := Aside0.mk H
  clear H
  go_enter Try.func31, Try.ntmps31
  go_upto_region 4 with (first | ((with_reducible refine gate_callee (f := 21) rfl ?_); refine goesL_ (some 14) rfl rfl Try.func21 (by kernel_rfl) rfl #[.slice A0 l0.length c0, .int .i64 a1] rfl (by (try simp only [List.map_toArray, List.map_cons, List.map_nil]); first | done | rfl | (simp only [List.length_drop, List.length_take]; rfl)) ?_; (with_reducible refine (dancestudioref24_Check.calls k _ _ l0 a1 t359 _ ?side1 ?side2 A5.out).mono ?_); (case side1 => repeat (first | exact HR0.out | (with_reducible refine Kd.C_alloc ?_ _) | (with_reducible refine Kd.C_drewN ?_ _) | (with_reducible refine Kd.C_drew ?_))); (case side2 => exact HC0.out); rintro e w8 ⟨rfl, hb⟩; refine ⟨_, rfl, ?_⟩; have n0_ := Aside0.mk (below_step (hU HB.out) hb); clear HB; have HB := n0_; clear n0_; (try clear hb); (try clear hb2); (try clear hk); (try clear hi)))
  (try simp only [Act.put, List.setIfInBounds_toArray, List.set_cons_zero, List.set_cons_succ])
  go_cut [23] (fun v23 wc => ∃ (kq : Nat) (x23_6 : Bool), v23 = .bool x23_6 ∧ Aside0 (dancestudioref24_At.j0 kq l0 a1 a2 a3 x23_6 = some (r1, r2)) ∧ Aside0 (kq ≤ k) ∧ Aside0 (Below w.heap.size w wc))
  case first =>
   have H := HC7.out
   clear HC7
   by_cases c9 : a2 < 0
   ·rw [if_pos c9] at H
    have c9b0 : decide (a2 < 0) = true := decide_eq_true c9
    clear c9
    (first | rw [c9b0] | (simp only [i64_w, i32_w]; rw [c9b0]) | skip)
    have H' := Aside0.mk H
    clear H
    go_wp2
    go_meet
    case rel => exact ⟨_, (true), (by first | rfl | (simp; done) | (simp [*]; done)), H', ⟨by first | omega | exact Nat.le_refl _⟩, ⟨hU HB.out⟩⟩
   ·rw [if_neg c9] at H
    have c9b0 : decide (a2 < 0) = false := decide_eq_false c9
    clear c9
    (first | rw [c9b0] | (simp only [i64_w, i32_w]; rw [c9b0]) | skip)
    have H' := Aside0.mk H
    clear H
    go_wp2
    go_meet
    case rel => exact ⟨_, (decide (a2 ≥ 9)), (by first | rfl | (simp; done) | (simp [*]; done)), H', ⟨by first | omega | exact Nat.le_refl _⟩, ⟨hU HB.out⟩⟩
  case rest =>
   clear HC7
   try clear c2
   try clear p2
   try clear c3
   try clear c6
   try clear c6b0
   try clear c6b1
   try clear c9
   try clear c9b0
   obtain ⟨kq, x23_6, rfl, HA, HJ6, HB⟩ := hcut
   cases kq with
   | zero => exact absurd HA.out (by simp [dancestudioref24_At.j0])
   | succ kj6 =>
    have H := HA.out
    clear HA
    simp only [dancestudioref24_At.j0] at H
    by_cases c10 : x23_6 = true
    ·subst c10
     have H1 : (some (0, 16)) = some (r1, r2) := by rw [if_pos rfl] at H; exact H
     clear H
     have H := H1
     clear H1
     simp only [Option.some.injEq, Prod.mk.injEq] at H
     obtain ⟨rfl, rfl⟩ := H
     go_wp2
     go_ret2
     exact ⟨by first | rfl | (simp [errW_none, errW_some] <;> rfl) | (simp [*, errW_none, errW_some] <;> rfl), hU HB.out⟩
    ·replace c10 := Bool.eq_false_iff.mpr c10
     subst c10
     have H1 : (if a3 < 0 then (dancestudioref24_At.j1 kj6 l0 a2 a3 true) else (dancestudioref24_At.j1 kj6 l0 a2 a3 (decide (a3 ≥ a1)))) = some (r1, r2) := by rw [if_neg (show ¬ (false = true) by decide)] at H; exact H
     clear H
     have H := H1
     clear H1
     have HC11 := Aside0.mk H
     clear H
     go_upto_region 6 with (fail)
     go_cut [30] (fun v30 wc => ∃ (kq : Nat) (x30_10 : Bool), v30 = .bool x30_10 ∧ Aside0 (dancestudioref24_At.j1 kq l0 a2 a3 x30_10 = some (r1, r2)) ∧ Aside0 (kq ≤ kj6) ∧ Aside0 (Below w.heap.size w wc))
     case first =>
      have H := HC11.out
      clear HC11
      by_cases c12 : a3 < 0
      ·rw [if_pos c12] at H
       have c12b0 : decide (a3 < 0) = true := decide_eq_true c12
       clear c12
       (first | rw [c12b0] | (simp only [i64_w, i32_w]; rw [c12b0]) | skip)
       have H' := Aside0.mk H
       clear H
       go_wp2
       go_meet
       case rel => exact ⟨_, (true), (by first | rfl | (simp; done) | (simp [*]; done)), H', ⟨by have := HJ6.out; first | omega | exact Nat.le_refl _⟩, ⟨hU HB.out⟩⟩
      ·rw [if_neg c12] at H
       have c12b0 : decide (a3 < 0) = false := decide_eq_false c12
       clear c12
       (first | rw [c12b0] | (simp only [i64_w, i32_w]; rw [c12b0]) | skip)
       have H' := Aside0.mk H
       clear H
       go_wp2
       go_meet
       case rel => exact ⟨_, (decide (a3 ≥ a1)), (by first | rfl | (simp; done) | (simp [*]; done)), H', ⟨by have := HJ6.out; first | omega | exact Nat.le_refl _⟩, ⟨hU HB.out⟩⟩
     case rest =>
      clear HC11
      try clear c1
      try clear c2
      try clear p2
      try clear c3
      try clear c6
      try clear c6b0
      try clear c6b1
      try clear c9
      try clear c9b0
      try clear c10
      try clear c12
      try clear c12b0
      try clear p2
      obtain ⟨kq, x30_10, rfl, HA, HJ10, HB⟩ := hcut
      cases kq with
      | zero => exact absurd HA.out (by simp [dancestudioref24_At.j1])
      | succ kj10 =>
       have H := HA.out
       clear HA
       simp only [dancestudioref24_At.j1] at H
       by_cases c13 : x30_10 = true
       ·subst c13
        have H1 : (some (0, 1)) = some (r1, r2) := by rw [if_pos rfl] at H; exact H
        clear H
        have H := H1
        clear H1
        simp only [Option.some.injEq, Prod.mk.injEq] at H
        obtain ⟨rfl, rfl⟩ := H
        go_wp2
        go_ret2
        exact ⟨by first | rfl | (simp [errW_none, errW_some] <;> rfl) | (simp [*, errW_none, errW_some] <;> rfl), hU HB.out⟩
       ·replace c13 := Bool.eq_false_iff.mpr c13
        subst c13
        have H1 : (dancestudioref24_At.l0 kj10 l0 a2 a3 0) = some (r1, r2) := by rw [if_neg (show ¬ (false = true) by decide)] at H; exact H
        clear H
        have H := H1
        clear H1
        have H' := Aside0.mk H
        clear H
        go_wp2
        go_loopg [11] kj10 (fun kq v11 w' => ∃ (x11_3 : Int), v11 = .int .i64 x11_3 ∧ Aside0 (dancestudioref24_At.l0 kq l0 a2 a3 x11_3 = some (r1, r2)) ∧ Aside0 (kq ≤ kj10) ∧ Aside0 (Below w.heap.size w w'))
        case atStart => exact ⟨(0), (by first | rfl | (simp; done) | (simp [*]; done)), H', ⟨Nat.le_refl _⟩, ⟨hU HB.out⟩⟩
        case round =>
         clear H'
         try clear c1
         try clear c2
         try clear p2
         try clear c3
         try clear c6
         try clear c6b0
         try clear c6b1
         try clear c9
         try clear c9b0
         try clear c10
         try clear c12
         try clear c12b0
         try clear c13
         try clear p2
         obtain ⟨x11_3, rfl, HA, HK3, HB⟩ := hrel
         cases gk with
         | zero => exact absurd HA.out (by simp [dancestudioref24_At.l0])
         | succ k3 =>
          have H := HA.out
          clear HA
          simp only [dancestudioref24_At.l0] at H
          by_cases c14 : x11_3 < (l0.length : Int)
          ·rw [if_pos c14] at H
           have c14b0 : decide (x11_3 < (l0.length : Int)) = true := decide_eq_true c14
           clear c14
           by_cases c15 : 0 ≤ x11_3
           ·rw [if_pos c15] at H
            have c15b0 : decide (0 ≤ x11_3) = true := decide_eq_true c15
            clear c15
            by_cases c16 : ((rd_T29 l0 x11_3).f1) = a2
            ·rw [if_pos c16] at H
             have c16b0 : (((rd_T29 l0 x11_3).f1) == a2) = true := beq_iff_eq.mpr c16
             have c16b1 : (((rd_T29 l0 x11_3).f1) != a2) = false := bne_eq_false_iff_eq.mpr c16
             clear c16
             by_cases c17 : ((rd_T29 l0 x11_3).f2) ≤ a3
             ·rw [if_pos c17] at H
              have c17b0 : decide (((rd_T29 l0 x11_3).f2) ≤ a3) = true := decide_eq_true c17
              clear c17
              replace H := Option.bind_eq_some_iff.mp H
              obtain ⟨t363, A180, H⟩ := H
              replace H : (if a3 < t363 then (some (x11_3, 0)) else (dancestudioref24_At.l0 k3 l0 a2 a3 (wrap64 (x11_3 + 1)))) = some (r1, r2) := H
              have A18 := Aside0.mk A180
              clear A180
              by_cases c19 : a3 < t363
              ·rw [if_pos c19] at H
               have c19b0 : decide (a3 < t363) = true := decide_eq_true c19
               clear c19
               simp only [Option.some.injEq, Prod.mk.injEq] at H
               obtain ⟨rfl, rfl⟩ := H
               have p360 : 0 ≤ (x11_3 : Int) := of_decide_eq_true (by first | (with_reducible assumption) | assumption)
               have q360 : x11_3 < (l0.length : Int) := of_decide_eq_true (by first | (with_reducible assumption) | assumption)
               obtain ⟨ad360, e360, hx360_0, hx360_1, hx360_2, hx360_3, hx360_4, hx360_5, hx360_6⟩ := at_T29 HR0.out x11_3 p360 q360
               cases e360
               replace hx360_0 := hbC HB hx360_0
               replace hx360_1 := hbC HB hx360_1
               replace hx360_2 := hbC HB hx360_2
               replace hx360_3 := hbC HB hx360_3
               replace hx360_4 := hbC HB hx360_4
               replace hx360_5 := hbC HB hx360_5
               replace hx360_6 := hbC HB hx360_6
               replace p360 := eq_true p360
               replace q360 := eq_true q360
               have p361 : 0 ≤ (x11_3 : Int) := of_decide_eq_true (by first | (with_reducible assumption) | assumption)
               have q361 : x11_3 < (l0.length : Int) := of_decide_eq_true (by first | (with_reducible assumption) | assumption)
               obtain ⟨ad361, e361, hx361_0, hx361_1, hx361_2, hx361_3, hx361_4, hx361_5, hx361_6⟩ := at_T29 HR0.out x11_3 p361 q361
               obtain rfl : ad360 = ad361 := (by injection e361)
               replace hx361_0 := hbC HB hx361_0
               replace hx361_1 := hbC HB hx361_1
               replace hx361_2 := hbC HB hx361_2
               replace hx361_3 := hbC HB hx361_3
               replace hx361_4 := hbC HB hx361_4
               replace hx361_5 := hbC HB hx361_5
               replace hx361_6 := hbC HB hx361_6
               replace p361 := eq_true p361
               replace q361 := eq_true q361
               have p362 : 0 ≤ (x11_3 : Int) := of_decide_eq_true (by first | (with_reducible assumption) | assumption)
               have q362 : x11_3 < (l0.length : Int) := of_decide_eq_true (by first | (with_reducible assumption) | assumption)
               obtain ⟨ad362, e362, hx362_0, hx362_1, hx362_2, hx362_3, hx362_4, hx362_5, hx362_6⟩ := at_T29 HR0.out x11_3 p362 q362
               obtain rfl : ad360 = ad362 := (by injection e362)
               replace hx362_0 := hbC HB hx362_0
               replace hx362_1 := hbC HB hx362_1
               replace hx362_2 := hbC HB hx362_2
               replace hx362_3 := hbC HB hx362_3
               replace hx362_4 := hbC HB hx362_4
               replace hx362_5 := hbC HB hx362_5
               replace hx362_6 := hbC HB hx362_6
               replace p362 := eq_true p362
               replace q362 := eq_true q362
               go_wp2_with (first | (go_at_call 57; (with_reducible refine (dancestudioref24_end.calls ((rd_T29 l0 x11_3).f0) ((rd_T29 l0 x11_3).f1) ((rd_T29 l0 x11_3).f2) ((rd_T29 l0 x11_3).f3) ((rd_T29 l0 x11_3).f4) ((rd_T29 l0 x11_3).f5) ((rd_T29 l0 x11_3).f6) t363 _ A18.out).mono ?_); rintro e w20 ⟨rfl, hb⟩; have n0_ := Aside0.mk (below_step (hU HB.out) hb); clear HB; have HB := n0_; clear n0_; (try clear hb); (try clear hb2); (try clear hk); (try clear hi)))
               go_ret2
               exact ⟨by first | rfl | (simp [errW_none, errW_some] <;> rfl) | (simp [*, errW_none, errW_some] <;> rfl), hU HB.out⟩
              ·rw [if_neg c19] at H
               have c19b0 : decide (a3 < t363) = false := decide_eq_false c19
               clear c19
               have H' := Aside0.mk H
               clear H
               have p360 : 0 ≤ (x11_3 : Int) := of_decide_eq_true (by first | (with_reducible assumption) | assumption)
               have q360 : x11_3 < (l0.length : Int) := of_decide_eq_true (by first | (with_reducible assumption) | assumption)
               obtain ⟨ad360, e360, hx360_0, hx360_1, hx360_2, hx360_3, hx360_4, hx360_5, hx360_6⟩ := at_T29 HR0.out x11_3 p360 q360
               cases e360
               replace hx360_0 := hbC HB hx360_0
               replace hx360_1 := hbC HB hx360_1
               replace hx360_2 := hbC HB hx360_2
               replace hx360_3 := hbC HB hx360_3
               replace hx360_4 := hbC HB hx360_4
               replace hx360_5 := hbC HB hx360_5
               replace hx360_6 := hbC HB hx360_6
               replace p360 := eq_true p360
               replace q360 := eq_true q360
               have p361 : 0 ≤ (x11_3 : Int) := of_decide_eq_true (by first | (with_reducible assumption) | assumption)
               have q361 : x11_3 < (l0.length : Int) := of_decide_eq_true (by first | (with_reducible assumption) | assumption)
               obtain ⟨ad361, e361, hx361_0, hx361_1, hx361_2, hx361_3, hx361_4, hx361_5, hx361_6⟩ := at_T29 HR0.out x11_3 p361 q361
               obtain rfl : ad360 = ad361 := (by injection e361)
               replace hx361_0 := hbC HB hx361_0
               replace hx361_1 := hbC HB hx361_1
               replace hx361_2 := hbC HB hx361_2
               replace hx361_3 := hbC HB hx361_3
               replace hx361_4 := hbC HB hx361_4
               replace hx361_5 := hbC HB hx361_5
               replace hx361_6 := hbC HB hx361_6
               replace p361 := eq_true p361
               replace q361 := eq_true q361
               have p362 : 0 ≤ (x11_3 : Int) := of_decide_eq_true (by first | (with_reducible assumption) | assumption)
               have q362 : x11_3 < (l0.length : Int) := of_decide_eq_true (by first | (with_reducible assumption) | assumption)
               obtain ⟨ad362, e362, hx362_0, hx362_1, hx362_2, hx362_3, hx362_4, hx362_5, hx362_6⟩ := at_T29 HR0.out x11_3 p362 q362
               obtain rfl : ad360 = ad362 := (by injection e362)
               replace hx362_0 := hbC HB hx362_0
               replace hx362_1 := hbC HB hx362_1
               replace hx362_2 := hbC HB hx362_2
               replace hx362_3 := hbC HB hx362_3
               replace hx362_4 := hbC HB hx362_4
               replace hx362_5 := hbC HB hx362_5
               replace hx362_6 := hbC HB hx362_6
               replace p362 := eq_true p362
               replace q362 := eq_true q362
               go_wp2_with (first | (go_at_call 57; (with_reducible refine (dancestudioref24_end.calls ((rd_T29 l0 x11_3).f0) ((rd_T29 l0 x11_3).f1) ((rd_T29 l0 x11_3).f2) ((rd_T29 l0 x11_3).f3) ((rd_T29 l0 x11_3).f4) ((rd_T29 l0 x11_3).f5) ((rd_T29 l0 x11_3).f6) t363 _ A18.out).mono ?_); rintro e w21 ⟨rfl, hb⟩; have n0_ := Aside0.mk (below_step (hU HB.out) hb); clear HB; have HB := n0_; clear n0_; (try clear hb); (try clear hb2); (try clear hk); (try clear hi)))
               go_roundg k3
               case measure => have := HJ6.out; have := HJ10.out; have := HK3.out; omega
               case rel => exact ⟨(wrap64 (x11_3 + 1)), (by first | rfl | (simp; done) | (simp [*]; done)), H', ⟨by have := HJ6.out; have := HJ10.out; have := HK3.out; omega⟩, ⟨hU HB.out⟩⟩
             ·rw [if_neg c17] at H
              have c17b0 : decide (((rd_T29 l0 x11_3).f2) ≤ a3) = false := decide_eq_false c17
              clear c17
              have H' := Aside0.mk H
              clear H
              have p360 : 0 ≤ (x11_3 : Int) := of_decide_eq_true (by first | (with_reducible assumption) | assumption)
              have q360 : x11_3 < (l0.length : Int) := of_decide_eq_true (by first | (with_reducible assumption) | assumption)
              obtain ⟨ad360, e360, hx360_0, hx360_1, hx360_2, hx360_3, hx360_4, hx360_5, hx360_6⟩ := at_T29 HR0.out x11_3 p360 q360
              cases e360
              replace hx360_0 := hbC HB hx360_0
              replace hx360_1 := hbC HB hx360_1
              replace hx360_2 := hbC HB hx360_2
              replace hx360_3 := hbC HB hx360_3
              replace hx360_4 := hbC HB hx360_4
              replace hx360_5 := hbC HB hx360_5
              replace hx360_6 := hbC HB hx360_6
              replace p360 := eq_true p360
              replace q360 := eq_true q360
              have p361 : 0 ≤ (x11_3 : Int) := of_decide_eq_true (by first | (with_reducible assumption) | assumption)
              have q361 : x11_3 < (l0.length : Int) := of_decide_eq_true (by first | (with_reducible assumption) | assumption)
              obtain ⟨ad361, e361, hx361_0, hx361_1, hx361_2, hx361_3, hx361_4, hx361_5, hx361_6⟩ := at_T29 HR0.out x11_3 p361 q361
              obtain rfl : ad360 = ad361 := (by injection e361)
              replace hx361_0 := hbC HB hx361_0
              replace hx361_1 := hbC HB hx361_1
              replace hx361_2 := hbC HB hx361_2
              replace hx361_3 := hbC HB hx361_3
              replace hx361_4 := hbC HB hx361_4
              replace hx361_5 := hbC HB hx361_5
              replace hx361_6 := hbC HB hx361_6
              replace p361 := eq_true p361
              replace q361 := eq_true q361
              go_wp2
              go_roundg k3
              case measure => have := HJ6.out; have := HJ10.out; have := HK3.out; omega
              case rel => exact ⟨(wrap64 (x11_3 + 1)), (by first | rfl | (simp; done) | (simp [*]; done)), H', ⟨by have := HJ6.out; have := HJ10.out; have := HK3.out; omega⟩, ⟨hU HB.out⟩⟩
            ·rw [if_neg c16] at H
             have c16b0 : (((rd_T29 l0 x11_3).f1) == a2) = false := beq_eq_false_iff_ne.mpr c16
             have c16b1 : (((rd_T29 l0 x11_3).f1) != a2) = true := bne_iff_ne.mpr c16
             have H' := Aside0.mk H
             clear H
             have p360 : 0 ≤ (x11_3 : Int) := of_decide_eq_true (by first | (with_reducible assumption) | assumption)
             have q360 : x11_3 < (l0.length : Int) := of_decide_eq_true (by first | (with_reducible assumption) | assumption)
             obtain ⟨ad360, e360, hx360_0, hx360_1, hx360_2, hx360_3, hx360_4, hx360_5, hx360_6⟩ := at_T29 HR0.out x11_3 p360 q360
             cases e360
             replace hx360_0 := hbC HB hx360_0
             replace hx360_1 := hbC HB hx360_1
             replace hx360_2 := hbC HB hx360_2
             replace hx360_3 := hbC HB hx360_3
             replace hx360_4 := hbC HB hx360_4
             replace hx360_5 := hbC HB hx360_5
             replace hx360_6 := hbC HB hx360_6
             replace p360 := eq_true p360
             replace q360 := eq_true q360
             go_wp2
             go_roundg k3
             case measure => have := HJ6.out; have := HJ10.out; have := HK3.out; omega
             case rel => exact ⟨(wrap64 (x11_3 + 1)), (by first | rfl | (simp; done) | (simp [*]; done)), H', ⟨by have := HJ6.out; have := HJ10.out; have := HK3.out; omega⟩, ⟨hU HB.out⟩⟩
           ·rw [if_neg c15] at H
            exact absurd H (by simp)
          ·rw [if_neg c14] at H
           have c14b0 : decide (x11_3 < (l0.length : Int)) = false := decide_eq_false c14
           clear c14
           simp only [Option.some.injEq, Prod.mk.injEq] at H
           obtain ⟨rfl, rfl⟩ := H
           go_wp2
           go_ret2
           exact ⟨by first | rfl | (simp [errW_none, errW_some] <;> rfl) | (simp [*, errW_none, errW_some] <;> rfl), hU HB.out⟩
 ·rw [if_neg c6] at H
  have c6b0 : (t359 == 0) = false := beq_eq_false_iff_ne.mpr c6
  have c6b1 : (t359 != 0) = true := bne_iff_ne.mpr c6
  simp only [Option.some.injEq, Prod.mk.injEq] at H
  obtain ⟨rfl, rfl⟩ := H
  go_enter Try.func31, Try.ntmps31
  go_wp2_with (first | ((with_reducible refine gate_callee (f := 21) rfl ?_); refine goesL_ (some 14) rfl rfl Try.func21 (by kernel_rfl) rfl #[.slice A0 l0.length c0, .int .i64 a1] rfl (by (try simp only [List.map_toArray, List.map_cons, List.map_nil]); first | done | rfl | (simp only [List.length_drop, List.length_take]; rfl)) ?_; (with_reducible refine (dancestudioref24_Check.calls k _ _ l0 a1 t359 _ ?side1 ?side2 A5.out).mono ?_); (case side1 => repeat (first | exact HR0.out | (with_reducible refine Kd.C_alloc ?_ _) | (with_reducible refine Kd.C_drewN ?_ _) | (with_reducible refine Kd.C_drew ?_))); (case side2 => exact HC0.out); rintro e w22 ⟨rfl, hb⟩; refine ⟨_, rfl, ?_⟩; have n0_ := Aside0.mk (below_step (hU HB.out) hb); clear HB; have HB := n0_; clear n0_; (try clear hb); (try clear hb2); (try clear hk); (try clear hi)))
  go_ret2
  exact ⟨by first | rfl | (simp [errW_none, errW_some] <;> rfl) | (simp [*, errW_none, errW_some] <;> rfl), hU HB.out⟩

end Go.Proofs.Ytdilndbanhianaa.P

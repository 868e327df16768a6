-- Written by a program of this session (myprint.py over the kit's print): the Go functions of the seat as Lean functions, and what their calls do.
import Derived.Test.YtdilndbanhianaaVReg
import Derived.Test.YtdilndbanhianaaVMA
namespace Go.Proofs.Ytdilndbanhianaa.P
open Go.RowKit Go.Proofs.YtdilndbanhianaaW.PrintWords Go.Proofs.YtdilndbanhianaaW.PrintLast Go.Proofs.YtdilndbanhianaaW.PrintMore
attribute [local go_sem] max2_int min2_int max_two min_two max_three min_three max_four min_four   -- for this text's walks alone
set_option linter.unusedVariables false
set_option linter.unusedSimpArgs false

/-! ### dancestudioref26_performed: function 75 -/
mutual
def dancestudioref26_performed.l0 : Nat → List (S29) → List (S88) → List (S29) → Int → Int → Option ((List (S29)))
 | 0, _, _, _, _, _ => none
 | k + 1, x0, x1, x5, x6, x7 => if x7 < (x1.length : Int) then (dancestudioref26_performed.l1 k x0 x1 x5 x6 x7 0) else (some x5)
def dancestudioref26_performed.l1 : Nat → List (S29) → List (S88) → List (S29) → Int → Int → Int → Option ((List (S29)))
 | 0, _, _, _, _, _, _ => none
 | k + 1, x0, x1, x5, x6, x7, x8 => if 0 ≤ x7 then (if x7 < (x1.length : Int) then (if x8 < ((rd_T88 x1 x7).f2) then (dancestudioref26_performed.l2 k x0 x1 x5 x6 x7 x8 0) else (dancestudioref26_performed.l0 k x0 x1 x5 x6 (wrap64 (x7 + 1)))) else (none)) else (none)
def dancestudioref26_performed.l2 : Nat → List (S29) → List (S88) → List (S29) → Int → Int → Int → Int → Option ((List (S29)))
 | 0, _, _, _, _, _, _, _ => none
 | k + 1, x0, x1, x5, x6, x7, x8, x9 => if x9 < (x0.length : Int) then (if 0 ≤ x9 then (if 0 ≤ x7 then (if x7 < (x1.length : Int) then (if ((rd_T29 x0 x9).f2) ≥ ((rd_T88 x1 x7).f0) then (if ((rd_T29 x0 x9).f2) < ((rd_T88 x1 x7).f1) then (if x5.length < 2513169434916 then (dancestudioref26_performed.l2 k x0 x1 (x5 ++ [(⟨(rd_T29 x0 x9).f0, (rd_T29 x0 x9).f1, wrap64 ((wrap64 (((rd_T29 x0 x9).f2) - ((rd_T88 x1 x7).f0))) + x6), (rd_T29 x0 x9).f3, (rd_T29 x0 x9).f4, (rd_T29 x0 x9).f5, (rd_T29 x0 x9).f6⟩ : S29)]) x6 x7 x8 (wrap64 (x9 + 1))) else (none)) else (dancestudioref26_performed.l2 k x0 x1 x5 x6 x7 x8 (wrap64 (x9 + 1)))) else (dancestudioref26_performed.l2 k x0 x1 x5 x6 x7 x8 (wrap64 (x9 + 1)))) else (none)) else (none)) else (none)) else (if 0 ≤ x7 then (if x7 < (x1.length : Int) then (dancestudioref26_performed.l1 k x0 x1 x5 (wrap64 ((wrap64 (x6 + ((rd_T88 x1 x7).f1))) - ((rd_T88 x1 x7).f0))) x7 (wrap64 (x8 + 1))) else (none)) else (none))
end
def dancestudioref26_performed.f (k : Nat) (l0 : List (S29)) (l1 : List (S88)) : Option ((List (S29))) := dancestudioref26_performed.l0 k l0 l1 (([] : List (S29))) 0 0
theorem dancestudioref26_performed.mono_l : ∀ k, (∀ y0 y1 y2 y3 y4, LeO (dancestudioref26_performed.l0 k y0 y1 y2 y3 y4) (dancestudioref26_performed.l0 (k + 1) y0 y1 y2 y3 y4)) ∧ (∀ y0 y1 y2 y3 y4 y5, LeO (dancestudioref26_performed.l1 k y0 y1 y2 y3 y4 y5) (dancestudioref26_performed.l1 (k + 1) y0 y1 y2 y3 y4 y5)) ∧ (∀ y0 y1 y2 y3 y4 y5 y6, LeO (dancestudioref26_performed.l2 k y0 y1 y2 y3 y4 y5 y6) (dancestudioref26_performed.l2 (k + 1) y0 y1 y2 y3 y4 y5 y6))
 | 0 => ⟨fun _ _ _ _ _ r h => by simp [dancestudioref26_performed.l0] at h, fun _ _ _ _ _ _ r h => by simp [dancestudioref26_performed.l1] at h, fun _ _ _ _ _ _ _ r h => by simp [dancestudioref26_performed.l2] at h⟩
 | k + 1 => by
  obtain ⟨ih0, ih1, ih2⟩ := dancestudioref26_performed.mono_l k
  refine ⟨?_, ?_, ?_⟩
  ·intro y0 y1 y2 y3 y4
   unfold dancestudioref26_performed.l0
   repeat' first
   | (with_reducible exact ih0 _ _ _ _ _)
   | (with_reducible exact ih1 _ _ _ _ _ _)
   | (with_reducible exact ih2 _ _ _ _ _ _ _)
   | (with_reducible exact LeO.refl _)
   | (with_reducible exact LeO.none _)
   | (with_reducible refine LeO.ite ?_ ?_)
   | (with_reducible refine LeO.bind ?_ (fun _ => ?_))
   | exact ih0 _ _ _ _ _
   | exact ih1 _ _ _ _ _ _
   | exact ih2 _ _ _ _ _ _ _
   | exact LeO.none _
   | refine LeO.ite ?_ ?_
   | refine LeO.bind ?_ (fun _ => ?_)
  ·intro y0 y1 y2 y3 y4 y5
   unfold dancestudioref26_performed.l1
   repeat' first
   | (with_reducible exact ih0 _ _ _ _ _)
   | (with_reducible exact ih1 _ _ _ _ _ _)
   | (with_reducible exact ih2 _ _ _ _ _ _ _)
   | (with_reducible exact LeO.refl _)
   | (with_reducible exact LeO.none _)
   | (with_reducible refine LeO.ite ?_ ?_)
   | (with_reducible refine LeO.bind ?_ (fun _ => ?_))
   | exact ih0 _ _ _ _ _
   | exact ih1 _ _ _ _ _ _
   | exact ih2 _ _ _ _ _ _ _
   | exact LeO.none _
   | refine LeO.ite ?_ ?_
   | refine LeO.bind ?_ (fun _ => ?_)
  ·intro y0 y1 y2 y3 y4 y5 y6
   unfold dancestudioref26_performed.l2
   repeat' first
   | (with_reducible exact ih0 _ _ _ _ _)
   | (with_reducible exact ih1 _ _ _ _ _ _)
   | (with_reducible exact ih2 _ _ _ _ _ _ _)
   | (with_reducible exact LeO.refl _)
   | (with_reducible exact LeO.none _)
   | (with_reducible refine LeO.ite ?_ ?_)
   | (with_reducible refine LeO.bind ?_ (fun _ => ?_))
   | exact ih0 _ _ _ _ _
   | exact ih1 _ _ _ _ _ _
   | exact ih2 _ _ _ _ _ _ _
   | exact LeO.none _
   | refine LeO.ite ?_ ?_
   | refine LeO.bind ?_ (fun _ => ?_)
theorem dancestudioref26_performed.mono : ∀ a0 a1 k, LeO (dancestudioref26_performed.f k a0 a1) (dancestudioref26_performed.f (k + 1) a0 a1) := by
 intro a0 a1 k
 obtain ⟨ih0, ih1, ih2⟩ := dancestudioref26_performed.mono_l k
 unfold dancestudioref26_performed.f
 repeat' first
   | (with_reducible exact ih0 _ _ _ _ _)
   | (with_reducible exact ih1 _ _ _ _ _ _)
   | (with_reducible exact ih2 _ _ _ _ _ _ _)
   | (with_reducible exact LeO.refl _)
   | (with_reducible exact LeO.none _)
   | (with_reducible refine LeO.ite ?_ ?_)
   | (with_reducible refine LeO.bind ?_ (fun _ => ?_))
   | exact ih0 _ _ _ _ _
   | exact ih1 _ _ _ _ _ _
   | exact ih2 _ _ _ _ _ _ _
   | exact LeO.none _
   | refine LeO.ite ?_ ?_
   | refine LeO.bind ?_ (fun _ => ?_)
def dancestudioref26_performed.T11 : Bool × List (List Nat × List Nat) := (true, [([], []), ([], []), ([0, 1], [0, 1]), ([2], [2]), ([3], [3]), ([], []), ([], []), ([5, 6], [5, 6]), ([7], [7]), ([8], [8]), ([4, 9], [4, 9]), ([10], [10]), ([11], [11]), ([11], [11]), ([12, 13, 11], [11, 12, 13]), ([14, 11], [11, 14]), ([15, 11], [11, 15]), ([11], [11]), ([11], [11]), ([17, 18, 11], [11, 17, 18]), ([19, 11], [11, 19]), ([20, 11], [11, 20]), ([16, 21, 11], [11, 16, 21]), ([11, 22], [11, 22])])
def dancestudioref26_performed.B11 : List Nat := [0, 0, 3, 7, 15, 0, 0, 96, 224, 480, 1023, 2047, 4095, 4095, 16383, 32767, 65535, 4095, 4095, 397311, 921599, 1970175, 4194303, 8388607]
theorem dancestudioref26_performed.tab11 : rtab .any (opsOf Try.f75 11) = dancestudioref26_performed.T11 := by kernel_rfl
theorem dancestudioref26_performed.bits11 : waitsOk dancestudioref26_performed.T11.2 dancestudioref26_performed.B11 = true := by kernel_rfl
def dancestudioref26_performed.T13 : Bool × List (List Nat × List Nat) := (true, [([], []), ([0], [0]), ([], []), ([], []), ([2, 3], [2, 3]), ([4], [4]), ([5], [5]), ([1, 6], [1, 6]), ([], []), ([7, 8], [7, 8]), ([0, 1, 2, 3, 4, 5, 6, 7, 8, 9], []), ([10, 9, 0, 1, 2, 3, 4, 5, 6, 7, 8, 9], [9, 10])])
def dancestudioref26_performed.B13 : List Nat := [0, 1, 0, 0, 12, 28, 60, 127, 0, 511, 1023, 2047]
theorem dancestudioref26_performed.tab13 : rtab .any (opsOf Try.f75 13) = dancestudioref26_performed.T13 := by kernel_rfl
theorem dancestudioref26_performed.bits13 : waitsOk dancestudioref26_performed.T13.2 dancestudioref26_performed.B13 = true := by kernel_rfl
def dancestudioref26_performed.T15 : Bool × List (List Nat × List Nat) := (true, [([], []), ([], []), ([], []), ([1, 2], [1, 2]), ([3], [3]), ([4], [4]), ([0, 5], [0, 5]), ([], []), ([], []), ([7, 8], [7, 8]), ([9], [9]), ([10], [10]), ([6, 11], [6, 11]), ([12, 0, 1, 2, 3, 4, 5, 6, 7, 8, 9, 10, 11, 12], [0, 12])])
def dancestudioref26_performed.B15 : List Nat := [0, 0, 0, 6, 14, 30, 63, 0, 0, 384, 896, 1920, 4095, 8191]
theorem dancestudioref26_performed.tab15 : rtab .any (opsOf Try.f75 15) = dancestudioref26_performed.T15 := by kernel_rfl
theorem dancestudioref26_performed.bits15 : waitsOk dancestudioref26_performed.T15.2 dancestudioref26_performed.B15 = true := by kernel_rfl
set_option maxHeartbeats 8000000 in
set_option maxRecDepth 100000 in
theorem dancestudioref26_performed.calls (k : Nat) (A0 : Option Addr) (c0 : Nat) (l0 : List (S29)) (A1 : Option Addr) (c1 : Nat) (l1 : List (S88)) (r : List (S29)) (w : World) (hr0 : Kd.C k29 w A0 l0.length l0) (hc0 : l0.length ≤ c0) (hr1 : Kd.C k88 w A1 l1.length l1) (hc1 : l1.length ≤ c1) (h : dancestudioref26_performed.f k l0 l1 = some r) :
  Calls Try.prog 75 #[.slice A0 l0.length c0, .slice A1 l1.length c1] w fun e w' => ∃ v0_ : Value, e = .returned (v0_) ∧ Kd.R k29 29 w' w.heap.size (fun _ => True) v0_ r ∧ Below w.heap.size w w' := by
 have hu29 := Try.underlying29
 have HR0 := Aside0.mk hr0
 have HC0 := Aside0.mk hc0
 clear hr0 hc0
 have HR1 := Aside0.mk hr1
 have HC1 := Aside0.mk hc1
 clear hr1 hc1
 have HB := Aside0.mk (Below.refl w.heap.size w)
 have H : (dancestudioref26_performed.l0 k l0 l1 (([] : List (S29))) 0 0) = some r := h
 clear h
 obtain ⟨y772, hy772⟩ : ∃ y_ : List (S29), y_ = (([] : List (S29))) := ⟨_, rfl⟩
 replace H : (dancestudioref26_performed.l0 k l0 l1 y772 0 0) = some r := by first | (rw [hy772]; with_reducible exact H) | (have H2_ := (Option.bind_some _ _).symm.trans H; rw [hy772]; with_reducible exact H2_) | (have H2_ := (Option.bind_some _ _).symm.trans H; with_reducible exact H2_) | with_reducible exact H | (rw [hy772]; exact H) | exact H
 have Ny772 := Aside0.mk hy772
 clear hy772
 have H' := Aside0.mk H
 clear H
 go_enter Try.func75, Try.ntmps75
 go_wp2_with (first | ((with_reducible refine gate_dst (N := 11) rfl ?_); refine Kd.R_lit k29 _ 29 ?hg (N := 11) ?hd (xs := ([] : List (S29))) (inner := []) (ok := fun _ => True) (okp := fun _ => True) ?hr ?hp (fun _ hk => hk) trivial (Below.refl _ _) (Nat.le_refl _) (by simp) ?_; (case hd => rfl); (case hg => rfl); (case hr => first | (go_simp; done) | (go_simp; rfl)); (case hp => exact (Reps.none _ _)); intro v773 w3 ho4 hb hg_ hnew_; clear hg_ hnew_; (first | rw [← Ny772.out] at ho4 | (simp only [Int.reduceToNat] at ho4; rw [← Ny772.out] at ho4)); have n0_ := Aside0.mk (Kd.R_lower ho4 (below_size (hU HB.out))); have n1_ := Aside0.mk (below_step (hU HB.out) hb); clear HB; have HO774 := n0_; have HB := n1_; clear n0_ n1_; clear hb ho4))
 go_loopg [5, 6, 7] k (fun kq v5 v6 v7 w' => ∃ (x5_1 : List (S29)) (x6_1 : Int) (x7_1 : Int), v6 = .int .i64 x6_1 ∧ v7 = .int .i64 x7_1 ∧ Aside0 (dancestudioref26_performed.l0 kq l0 l1 x5_1 x6_1 x7_1 = some r) ∧ Aside0 (kq ≤ k) ∧ Aside0 (Kd.R k29 29 w' w.heap.size (fun _ => True) v5 x5_1) ∧ Aside0 (Below w.heap.size w w'))
 case atStart => exact ⟨(y772), (0), (0), (by first | rfl | (simp; done) | (simp [*]; done)), (by first | rfl | (simp; done) | (simp [*]; done)), H', ⟨Nat.le_refl _⟩, ⟨by (with_reducible repeat (first | apply Kd.R_alloc | apply Kd.R_drewN | apply Kd.R_drew)); exact HO774.out⟩, ⟨hU HB.out⟩⟩
 case round =>
  clear H'
  try clear c1
  try clear p2
  obtain ⟨x5_1, x6_1, x7_1, rfl, rfl, HA, HK1, HO_5, HB⟩ := hrel
  cases gk with
  | zero => exact absurd HA.out (by simp [dancestudioref26_performed.l0])
  | succ k1 =>
   have H := HA.out
   clear HA
   simp only [dancestudioref26_performed.l0] at H
   by_cases c5 : x7_1 < (l1.length : Int)
   ·rw [if_pos c5] at H
    have c5b0 : decide (x7_1 < (l1.length : Int)) = true := decide_eq_true c5
    clear c5
    have H' := Aside0.mk H
    clear H
    go_wp2
    go_loopg [5, 6, 8] k1 (fun kq v5 v6 v8 w' => ∃ (x5_2 : List (S29)) (x6_2 : Int) (x8_2 : Int), v6 = .int .i64 x6_2 ∧ v8 = .int .i64 x8_2 ∧ Aside0 (dancestudioref26_performed.l1 kq l0 l1 x5_2 x6_2 x7_1 x8_2 = some r) ∧ Aside0 (kq ≤ k1) ∧ Aside0 (Kd.R k29 29 w' w.heap.size (fun _ => True) v5 x5_2) ∧ Aside0 (Below w.heap.size w w'))
    case atStart => exact ⟨(x5_1), (x6_1), (0), (by first | rfl | (simp; done) | (simp [*]; done)), (by first | rfl | (simp; done) | (simp [*]; done)), H', ⟨Nat.le_refl _⟩, ⟨by (with_reducible repeat (first | apply Kd.R_alloc | apply Kd.R_drewN | apply Kd.R_drew)); exact HO_5.out⟩, ⟨hU HB.out⟩⟩
    case round =>
     clear H'
     try clear c1
     try clear p2
     try clear c5
     try clear c5b0
     try clear p2
     obtain ⟨x5_2, x6_2, x8_2, rfl, rfl, HA, HK2, HO_5, HB⟩ := hrel
     cases gk with
     | zero => exact absurd HA.out (by simp [dancestudioref26_performed.l1])
     | succ k2 =>
      have H := HA.out
      clear HA
      simp only [dancestudioref26_performed.l1] at H
      by_cases c6 : 0 ≤ x7_1
      ·rw [if_pos c6] at H
       have c6b0 : decide (0 ≤ x7_1) = true := decide_eq_true c6
       clear c6
       by_cases c7 : x7_1 < (l1.length : Int)
       ·rw [if_pos c7] at H
        have c7b0 : decide (x7_1 < (l1.length : Int)) = true := decide_eq_true c7
        clear c7
        by_cases c8 : x8_2 < ((rd_T88 l1 x7_1).f2)
        ·rw [if_pos c8] at H
         have c8b0 : decide (x8_2 < ((rd_T88 l1 x7_1).f2)) = true := decide_eq_true c8
         clear c8
         have H' := Aside0.mk H
         clear H
         have p775 : 0 ≤ (x7_1 : Int) := of_decide_eq_true (by first | (with_reducible assumption) | assumption)
         have q775 : x7_1 < (l1.length : Int) := of_decide_eq_true (by first | (with_reducible assumption) | assumption)
         obtain ⟨ad775, e775, hx775_0, hx775_1, hx775_2⟩ := at_T88 HR1.out x7_1 p775 q775
         cases e775
         replace hx775_0 := hbC HB hx775_0
         replace hx775_1 := hbC HB hx775_1
         replace hx775_2 := hbC HB hx775_2
         replace p775 := eq_true p775
         replace q775 := eq_true q775
         go_wp2
         go_loopg [5, 9] k2 (fun kq v5 v9 w' => ∃ (x5_3 : List (S29)) (x9_3 : Int), v9 = .int .i64 x9_3 ∧ Aside0 (dancestudioref26_performed.l2 kq l0 l1 x5_3 x6_2 x7_1 x8_2 x9_3 = some r) ∧ Aside0 (kq ≤ k2) ∧ Aside0 (Kd.R k29 29 w' w.heap.size (fun _ => True) v5 x5_3) ∧ Aside0 (Below w.heap.size w w'))
         case atStart => exact ⟨(x5_2), (0), (by first | rfl | (simp; done) | (simp [*]; done)), H', ⟨Nat.le_refl _⟩, ⟨by (with_reducible repeat (first | apply Kd.R_alloc | apply Kd.R_drewN | apply Kd.R_drew)); exact HO_5.out⟩, ⟨hU HB.out⟩⟩
         case round =>
          clear H'
          try clear c1
          try clear p2
          try clear c5
          try clear c5b0
          try clear c6
          try clear c6b0
          try clear c7
          try clear c7b0
          try clear p7
          try clear q7
          try clear hx7
          try clear c8
          try clear c8b0
          try clear hx775_0
          try clear hx775_1
          try clear hx775_2
          try clear p2
          try clear p775
          try clear q775
          obtain ⟨x5_3, x9_3, rfl, HA, HK3, HO_5, HB⟩ := hrel
          cases gk with
          | zero => exact absurd HA.out (by simp [dancestudioref26_performed.l2])
          | succ k3 =>
           have H := HA.out
           clear HA
           simp only [dancestudioref26_performed.l2] at H
           by_cases c9 : x9_3 < (l0.length : Int)
           ·rw [if_pos c9] at H
            have c9b0 : decide (x9_3 < (l0.length : Int)) = true := decide_eq_true c9
            clear c9
            by_cases c10 : 0 ≤ x9_3
            ·rw [if_pos c10] at H
             have c10b0 : decide (0 ≤ x9_3) = true := decide_eq_true c10
             clear c10
             by_cases c11 : 0 ≤ x7_1
             ·rw [if_pos c11] at H
              have c11b0 : decide (0 ≤ x7_1) = true := decide_eq_true c11
              clear c11
              by_cases c12 : x7_1 < (l1.length : Int)
              ·rw [if_pos c12] at H
               have c12b0 : decide (x7_1 < (l1.length : Int)) = true := decide_eq_true c12
               clear c12
               by_cases c13 : ((rd_T29 l0 x9_3).f2) ≥ ((rd_T88 l1 x7_1).f0)
               ·rw [if_pos c13] at H
                have c13b0 : decide (((rd_T88 l1 x7_1).f0) ≤ ((rd_T29 l0 x9_3).f2)) = true := decide_eq_true c13
                clear c13
                by_cases c14 : ((rd_T29 l0 x9_3).f2) < ((rd_T88 l1 x7_1).f1)
                ·rw [if_pos c14] at H
                 have c14b0 : decide (((rd_T29 l0 x9_3).f2) < ((rd_T88 l1 x7_1).f1)) = true := decide_eq_true c14
                 clear c14
                 by_cases c15 : x5_3.length < 2513169434916
                 ·rw [if_pos c15] at H
                  have LMc15 := Aside0.mk c15
                  clear c15
                  obtain ⟨y783, hy783⟩ : ∃ y_ : List (S29), y_ = (x5_3 ++ [(⟨(rd_T29 l0 x9_3).f0, (rd_T29 l0 x9_3).f1, wrap64 ((wrap64 (((rd_T29 l0 x9_3).f2) - ((rd_T88 l1 x7_1).f0))) + x6_2), (rd_T29 l0 x9_3).f3, (rd_T29 l0 x9_3).f4, (rd_T29 l0 x9_3).f5, (rd_T29 l0 x9_3).f6⟩ : S29)]) := ⟨_, rfl⟩
                  replace H : (dancestudioref26_performed.l2 k3 l0 l1 y783 x6_2 x7_1 x8_2 (wrap64 (x9_3 + 1))) = some r := by first | (rw [hy783]; with_reducible exact H) | (have H2_ := (Option.bind_some _ _).symm.trans H; rw [hy783]; with_reducible exact H2_) | (have H2_ := (Option.bind_some _ _).symm.trans H; with_reducible exact H2_) | with_reducible exact H | (rw [hy783]; exact H) | exact H
                  have Ny783 := Aside0.mk hy783
                  clear hy783
                  have H' := Aside0.mk H
                  clear H
                  try go_wp2
                  have n0_ := Aside0.mk (Kd.R_drew HO_5.out)
                  have n1_ := Aside0.mk (below_drew1 HB.out)
                  clear HO_5
                  clear HB
                  have HO_5 := n0_
                  have HB := n1_
                  clear n0_ n1_
                  have p776 : 0 ≤ (x9_3 : Int) := of_decide_eq_true (by first | (with_reducible assumption) | assumption)
                  have q776 : x9_3 < (l0.length : Int) := of_decide_eq_true (by first | (with_reducible assumption) | assumption)
                  obtain ⟨ad776, e776, hx776_0, hx776_1, hx776_2, hx776_3, hx776_4, hx776_5, hx776_6⟩ := at_T29 HR0.out x9_3 p776 q776
                  have hw776_6 := hx776_6
                  have hw776_5 := hx776_5
                  have hw776_4 := hx776_4
                  have hw776_3 := hx776_3
                  have hw776_2 := hx776_2
                  have hw776_1 := hx776_1
                  have hw776_0 := hx776_0
                  cases e776
                  replace hx776_0 := hbC HB hx776_0
                  replace hx776_1 := hbC HB hx776_1
                  replace hx776_2 := hbC HB hx776_2
                  replace hx776_3 := hbC HB hx776_3
                  replace hx776_4 := hbC HB hx776_4
                  replace hx776_5 := hbC HB hx776_5
                  replace hx776_6 := hbC HB hx776_6
                  replace p776 := eq_true p776
                  replace q776 := eq_true q776
                  have p777 : 0 ≤ (x7_1 : Int) := of_decide_eq_true (by first | (with_reducible assumption) | assumption)
                  have q777 : x7_1 < (l1.length : Int) := of_decide_eq_true (by first | (with_reducible assumption) | assumption)
                  obtain ⟨ad777, e777, hx777_0, hx777_1, hx777_2⟩ := at_T88 HR1.out x7_1 p777 q777
                  have hw777_2 := hx777_2
                  have hw777_1 := hx777_1
                  have hw777_0 := hx777_0
                  obtain rfl : ad775 = ad777 := (by injection e777)
                  replace hx777_0 := hbC HB hx777_0
                  replace hx777_1 := hbC HB hx777_1
                  replace hx777_2 := hbC HB hx777_2
                  replace p777 := eq_true p777
                  replace q777 := eq_true q777
                  have p778 : 0 ≤ (x9_3 : Int) := of_decide_eq_true (by first | (with_reducible assumption) | assumption)
                  have q778 : x9_3 < (l0.length : Int) := of_decide_eq_true (by first | (with_reducible assumption) | assumption)
                  obtain ⟨ad778, e778, hx778_0, hx778_1, hx778_2, hx778_3, hx778_4, hx778_5, hx778_6⟩ := at_T29 HR0.out x9_3 p778 q778
                  have hw778_6 := hx778_6
                  have hw778_5 := hx778_5
                  have hw778_4 := hx778_4
                  have hw778_3 := hx778_3
                  have hw778_2 := hx778_2
                  have hw778_1 := hx778_1
                  have hw778_0 := hx778_0
                  obtain rfl : ad776 = ad778 := (by injection e778)
                  replace hx778_0 := hbC HB hx778_0
                  replace hx778_1 := hbC HB hx778_1
                  replace hx778_2 := hbC HB hx778_2
                  replace hx778_3 := hbC HB hx778_3
                  replace hx778_4 := hbC HB hx778_4
                  replace hx778_5 := hbC HB hx778_5
                  replace hx778_6 := hbC HB hx778_6
                  replace p778 := eq_true p778
                  replace q778 := eq_true q778
                  have p779 : 0 ≤ (x7_1 : Int) := of_decide_eq_true (by first | (with_reducible assumption) | assumption)
                  have q779 : x7_1 < (l1.length : Int) := of_decide_eq_true (by first | (with_reducible assumption) | assumption)
                  obtain ⟨ad779, e779, hx779_0, hx779_1, hx779_2⟩ := at_T88 HR1.out x7_1 p779 q779
                  have hw779_2 := hx779_2
                  have hw779_1 := hx779_1
                  have hw779_0 := hx779_0
                  obtain rfl : ad775 = ad779 := (by injection e779)
                  replace hx779_0 := hbC HB hx779_0
                  replace hx779_1 := hbC HB hx779_1
                  replace hx779_2 := hbC HB hx779_2
                  replace p779 := eq_true p779
                  replace q779 := eq_true q779
                  refine start_ (n := 24) (S := fun w' => w'.cell? (ad776.add ((x9_3).toNat * 7)) = some (.int .i64 ((rd_T29 l0 x9_3).f0)) ∧ w'.cell? ⟨(ad776.add ((x9_3).toNat * 7)).block, (ad776.add ((x9_3).toNat * 7)).off + 1, none⟩ = some (.int .i64 ((rd_T29 l0 x9_3).f1)) ∧ w'.cell? ⟨(ad776.add ((x9_3).toNat * 7)).block, (ad776.add ((x9_3).toNat * 7)).off + 2, none⟩ = some (.int .i64 ((rd_T29 l0 x9_3).f2)) ∧ w'.cell? ⟨(ad776.add ((x9_3).toNat * 7)).block, (ad776.add ((x9_3).toNat * 7)).off + 3, none⟩ = some (.int .i64 ((rd_T29 l0 x9_3).f3)) ∧ w'.cell? ⟨(ad776.add ((x9_3).toNat * 7)).block, (ad776.add ((x9_3).toNat * 7)).off + 4, none⟩ = some (.int .i64 ((rd_T29 l0 x9_3).f4)) ∧ w'.cell? ⟨(ad776.add ((x9_3).toNat * 7)).block, (ad776.add ((x9_3).toNat * 7)).off + 5, none⟩ = some (.int .i64 ((rd_T29 l0 x9_3).f5)) ∧ w'.cell? ⟨(ad776.add ((x9_3).toNat * 7)).block, (ad776.add ((x9_3).toNat * 7)).off + 6, none⟩ = some (.int .i64 ((rd_T29 l0 x9_3).f6)) ∧ w'.cell? (ad775.add ((x7_1).toNat * 3)) = some (.int .i64 ((rd_T88 l1 x7_1).f0)) ∧ w'.cell? ⟨(ad775.add ((x7_1).toNat * 3)).block, (ad775.add ((x7_1).toNat * 3)).off + 1, none⟩ = some (.int .i64 ((rd_T88 l1 x7_1).f1)) ∧ w'.cell? ⟨(ad775.add ((x7_1).toNat * 3)).block, (ad775.add ((x7_1).toNat * 3)).off + 2, none⟩ = some (.int .i64 ((rd_T88 l1 x7_1).f2)) ∧ w'.cell? (ad776.add ((x9_3).toNat * 7)) = some (.int .i64 ((rd_T29 l0 x9_3).f0)) ∧ w'.cell? ⟨(ad776.add ((x9_3).toNat * 7)).block, (ad776.add ((x9_3).toNat * 7)).off + 1, none⟩ = some (.int .i64 ((rd_T29 l0 x9_3).f1)) ∧ w'.cell? ⟨(ad776.add ((x9_3).toNat * 7)).block, (ad776.add ((x9_3).toNat * 7)).off + 2, none⟩ = some (.int .i64 ((rd_T29 l0 x9_3).f2)) ∧ w'.cell? ⟨(ad776.add ((x9_3).toNat * 7)).block, (ad776.add ((x9_3).toNat * 7)).off + 3, none⟩ = some (.int .i64 ((rd_T29 l0 x9_3).f3)) ∧ w'.cell? ⟨(ad776.add ((x9_3).toNat * 7)).block, (ad776.add ((x9_3).toNat * 7)).off + 4, none⟩ = some (.int .i64 ((rd_T29 l0 x9_3).f4)) ∧ w'.cell? ⟨(ad776.add ((x9_3).toNat * 7)).block, (ad776.add ((x9_3).toNat * 7)).off + 5, none⟩ = some (.int .i64 ((rd_T29 l0 x9_3).f5)) ∧ w'.cell? ⟨(ad776.add ((x9_3).toNat * 7)).block, (ad776.add ((x9_3).toNat * 7)).off + 6, none⟩ = some (.int .i64 ((rd_T29 l0 x9_3).f6)) ∧ w'.cell? (ad775.add ((x7_1).toNat * 3)) = some (.int .i64 ((rd_T88 l1 x7_1).f0)) ∧ w'.cell? ⟨(ad775.add ((x7_1).toNat * 3)).block, (ad775.add ((x7_1).toNat * 3)).off + 1, none⟩ = some (.int .i64 ((rd_T88 l1 x7_1).f1)) ∧ w'.cell? ⟨(ad775.add ((x7_1).toNat * 3)).block, (ad775.add ((x7_1).toNat * 3)).off + 2, none⟩ = some (.int .i64 ((rd_T88 l1 x7_1).f2))) (ds := []) #[false, false, false, false, false, false, false, false, false, false, false, false, false, false, false, false, false, false, false, false, false, false, false, false] (by kernel_rfl) rfl rfl ⟨(hbC HB hw776_0), (hbC HB hw776_1), (hbC HB hw776_2), (hbC HB hw776_3), (hbC HB hw776_4), (hbC HB hw776_5), (hbC HB hw776_6), (hbC HB hw777_0), (hbC HB hw777_1), (hbC HB hw777_2), (hbC HB hw778_0), (hbC HB hw778_1), (hbC HB hw778_2), (hbC HB hw778_3), (hbC HB hw778_4), (hbC HB hw778_5), (hbC HB hw778_6), (hbC HB hw779_0), (hbC HB hw779_1), (hbC HB hw779_2)⟩ (fun hHeld => ?_); refine with_tabW dancestudioref26_performed.tab11 dancestudioref26_performed.bits11 (fun HT_ HW_ => ?_)
                  generalize wr.drew = w16 at HO_5 HB hx776_0 hx776_1 hx776_2 hx776_3 hx776_4 hx776_5 hx776_6 hx777_0 hx777_1 hx777_2 hx778_0 hx778_1 hx778_2 hx778_3 hx778_4 hx778_5 hx778_6 hx779_0 hx779_1 hx779_2 hHeld ⊢
                  refine puA 0 33 (bs 24 1) ?_
                  refine puA 1 34 (bs 24 3) ?_
                  refine puA 2 35 (bs 24 7) ?_
                  refine puA 3 36 (bs 24 15) ?_
                  refine puA 5 38 (bs 24 47) ?_
                  refine puA 6 39 (bs 24 111) ?_
                  refine puA 7 40 (bs 24 239) ?_
                  refine puA 8 41 (bs 24 495) ?_
                  refine tkA 4 37 (bs 24 511) hHeld ?_
                  refine tkA 9 42 (bs 24 1023) hHeld ?_
                  refine puA 10 43 (bs 24 2047) ?_
                  refine puA 11 44 (bs 24 4095) ?_
                  refine puA 12 45 (bs 24 8191) ?_
                  refine puA 13 46 (bs 24 16383) ?_
                  refine puA 14 47 (bs 24 32767) ?_
                  refine puA 15 48 (bs 24 65535) ?_
                  refine puA 17 50 (bs 24 196607) ?_
                  refine puA 18 51 (bs 24 458751) ?_
                  refine puA 19 52 (bs 24 983039) ?_
                  refine puA 20 53 (bs 24 2031615) ?_
                  refine tkA 16 49 (bs 24 2097151) hHeld ?_
                  refine tkA 21 54 (bs 24 4194303) hHeld ?_
                  refine puA 22 55 (bs 24 8388607) ?_
                  refine puA 23 56 (bs 24 16777215) ?_
                  refine done_ (done_of HT_.out (by kernel_rfl)) ?_
                  have p780 : 0 ≤ (x9_3 : Int) := of_decide_eq_true (by first | (with_reducible assumption) | assumption)
                  have q780 : x9_3 < (l0.length : Int) := of_decide_eq_true (by first | (with_reducible assumption) | assumption)
                  obtain ⟨ad780, e780, hx780_0, hx780_1, hx780_2, hx780_3, hx780_4, hx780_5, hx780_6⟩ := at_T29 HR0.out x9_3 p780 q780
                  obtain rfl : ad776 = ad780 := (by injection e780)
                  replace hx780_0 := hbC HB hx780_0
                  replace hx780_1 := hbC HB hx780_1
                  replace hx780_2 := hbC HB hx780_2
                  replace hx780_3 := hbC HB hx780_3
                  replace hx780_4 := hbC HB hx780_4
                  replace hx780_5 := hbC HB hx780_5
                  replace hx780_6 := hbC HB hx780_6
                  replace p780 := eq_true p780
                  replace q780 := eq_true q780
                  try go_wp2_with (first | ((with_reducible refine gate_dst (N := 10) rfl ?_); refine box_event ?hg (N := 10) ?hd (cs := #[.int .i64 0, .int .i64 0, .int .i64 0, .int .i64 0, .int .i64 0, .int .i64 0, .int .i64 0]) (t := 29) ?hr ?_; (case hd => rfl); (case hg => rfl); (case hr => first | (go_simp; done) | (go_simp; rfl)); intro gb781 hg w17 hbox hb; have n0_ := Aside0.mk (Kd.R_below (Kd.R_elderB (Kd.rU HO_5.out) gb781 (Nat.le_of_eq hg.symm)) hb); have n1_ := Aside0.mk (below_step (hU HB.out) hb); have n2_ := Aside0.mk (hbox); have n3_ := Aside0.mk ((by rw [hg]; exact (below_size (hU HB.out)) : w.heap.size ≤ gb781)); have n4_ := Aside0.mk ((by rw [hg]; exact (below_size (hU HB.out)) : w.heap.size ≤ gb781)); clear HO_5; clear HB; have HO_5 := n0_; have HB := n1_; have BK781 := n2_; have GW781 := n3_; have GE781 := n4_; clear n0_ n1_ n2_ n3_ n4_; clear hb hbox hg; have hcz18_0 := blk_cell BK781.out; have hfz18_0 := blk_frozen BK781.out))
                  have n0_ : Aside0 (Kd.R k29 29 (((((((w17.setCell ⟨gb781, 0, none⟩ (.int .i64 ((rd_T29 l0 x9_3).f0))).setCell ⟨gb781, 1, none⟩ (.int .i64 ((rd_T29 l0 x9_3).f1))).setCell ⟨gb781, 2, none⟩ (.int .i64 ((rd_T29 l0 x9_3).f2))).setCell ⟨gb781, 3, none⟩ (.int .i64 ((rd_T29 l0 x9_3).f3))).setCell ⟨gb781, 4, none⟩ (.int .i64 ((rd_T29 l0 x9_3).f4))).setCell ⟨gb781, 5, none⟩ (.int .i64 ((rd_T29 l0 x9_3).f5))).setCell ⟨gb781, 6, none⟩ (.int .i64 ((rd_T29 l0 x9_3).f6))) w.heap.size (fun k_ => k_ ≠ gb781) u5 x5_3) := ⟨by (with_reducible repeat (first | apply Kd.R_alloc | apply Kd.R_drewN | apply Kd.R_drew)); exact Kd.R_mono (Kd.R_far (p := ⟨gb781, 6, none⟩) (Kd.R_far (p := ⟨gb781, 5, none⟩) (Kd.R_far (p := ⟨gb781, 4, none⟩) (Kd.R_far (p := ⟨gb781, 3, none⟩) (Kd.R_far (p := ⟨gb781, 2, none⟩) (Kd.R_far (p := ⟨gb781, 1, none⟩) (Kd.R_far (p := ⟨gb781, 0, none⟩) (Kd.R_mono HO_5.out (fun k_ hk => (⟨hk, hk.2⟩ : _ ∧ k_ ≠ gb781))) (fun _ hk => hk.2) (.int .i64 ((rd_T29 l0 x9_3).f0))) (fun _ hk => hk.2) (.int .i64 ((rd_T29 l0 x9_3).f1))) (fun _ hk => hk.2) (.int .i64 ((rd_T29 l0 x9_3).f2))) (fun _ hk => hk.2) (.int .i64 ((rd_T29 l0 x9_3).f3))) (fun _ hk => hk.2) (.int .i64 ((rd_T29 l0 x9_3).f4))) (fun _ hk => hk.2) (.int .i64 ((rd_T29 l0 x9_3).f5))) (fun _ hk => hk.2) (.int .i64 ((rd_T29 l0 x9_3).f6))) (fun _ hk => hk.1.2)⟩
                  have n1_ : Aside0 ((((((((w17.setCell ⟨gb781, 0, none⟩ (.int .i64 ((rd_T29 l0 x9_3).f0))).setCell ⟨gb781, 1, none⟩ (.int .i64 ((rd_T29 l0 x9_3).f1))).setCell ⟨gb781, 2, none⟩ (.int .i64 ((rd_T29 l0 x9_3).f2))).setCell ⟨gb781, 3, none⟩ (.int .i64 ((rd_T29 l0 x9_3).f3))).setCell ⟨gb781, 4, none⟩ (.int .i64 ((rd_T29 l0 x9_3).f4))).setCell ⟨gb781, 5, none⟩ (.int .i64 ((rd_T29 l0 x9_3).f5))).setCell ⟨gb781, 6, none⟩ (.int .i64 ((rd_T29 l0 x9_3).f6))).heap[gb781]? = some (.cells #[.int .i64 ((rd_T29 l0 x9_3).f0), .int .i64 ((rd_T29 l0 x9_3).f1), .int .i64 ((rd_T29 l0 x9_3).f2), .int .i64 ((rd_T29 l0 x9_3).f3), .int .i64 ((rd_T29 l0 x9_3).f4), .int .i64 ((rd_T29 l0 x9_3).f5), .int .i64 ((rd_T29 l0 x9_3).f6)] 29 (0, 0))) := ⟨by (with_reducible repeat (first | refine blk_drewN ?_ _ | refine blk_drew ?_ | refine blk_alloc ?_ _)); refine blk_put (cs := #[.int .i64 ((rd_T29 l0 x9_3).f0), .int .i64 ((rd_T29 l0 x9_3).f1), .int .i64 ((rd_T29 l0 x9_3).f2), .int .i64 ((rd_T29 l0 x9_3).f3), .int .i64 ((rd_T29 l0 x9_3).f4), .int .i64 ((rd_T29 l0 x9_3).f5), .int .i64 0]) ?_ 6 _ rfl; (with_reducible repeat (first | refine blk_drewN ?_ _ | refine blk_drew ?_ | refine blk_alloc ?_ _)); refine blk_put (cs := #[.int .i64 ((rd_T29 l0 x9_3).f0), .int .i64 ((rd_T29 l0 x9_3).f1), .int .i64 ((rd_T29 l0 x9_3).f2), .int .i64 ((rd_T29 l0 x9_3).f3), .int .i64 ((rd_T29 l0 x9_3).f4), .int .i64 0, .int .i64 0]) ?_ 5 _ rfl; (with_reducible repeat (first | refine blk_drewN ?_ _ | refine blk_drew ?_ | refine blk_alloc ?_ _)); refine blk_put (cs := #[.int .i64 ((rd_T29 l0 x9_3).f0), .int .i64 ((rd_T29 l0 x9_3).f1), .int .i64 ((rd_T29 l0 x9_3).f2), .int .i64 ((rd_T29 l0 x9_3).f3), .int .i64 0, .int .i64 0, .int .i64 0]) ?_ 4 _ rfl; (with_reducible repeat (first | refine blk_drewN ?_ _ | refine blk_drew ?_ | refine blk_alloc ?_ _)); refine blk_put (cs := #[.int .i64 ((rd_T29 l0 x9_3).f0), .int .i64 ((rd_T29 l0 x9_3).f1), .int .i64 ((rd_T29 l0 x9_3).f2), .int .i64 0, .int .i64 0, .int .i64 0, .int .i64 0]) ?_ 3 _ rfl; (with_reducible repeat (first | refine blk_drewN ?_ _ | refine blk_drew ?_ | refine blk_alloc ?_ _)); refine blk_put (cs := #[.int .i64 ((rd_T29 l0 x9_3).f0), .int .i64 ((rd_T29 l0 x9_3).f1), .int .i64 0, .int .i64 0, .int .i64 0, .int .i64 0, .int .i64 0]) ?_ 2 _ rfl; (with_reducible repeat (first | refine blk_drewN ?_ _ | refine blk_drew ?_ | refine blk_alloc ?_ _)); refine blk_put (cs := #[.int .i64 ((rd_T29 l0 x9_3).f0), .int .i64 0, .int .i64 0, .int .i64 0, .int .i64 0, .int .i64 0, .int .i64 0]) ?_ 1 _ rfl; (with_reducible repeat (first | refine blk_drewN ?_ _ | refine blk_drew ?_ | refine blk_alloc ?_ _)); refine blk_put (cs := #[.int .i64 0, .int .i64 0, .int .i64 0, .int .i64 0, .int .i64 0, .int .i64 0, .int .i64 0]) ?_ 0 _ rfl; (with_reducible repeat (first | refine blk_drewN ?_ _ | refine blk_drew ?_ | refine blk_alloc ?_ _)); exact BK781.out⟩
                  have n2_ : Aside0 (Below w.heap.size w (((((((w17.setCell ⟨gb781, 0, none⟩ (.int .i64 ((rd_T29 l0 x9_3).f0))).setCell ⟨gb781, 1, none⟩ (.int .i64 ((rd_T29 l0 x9_3).f1))).setCell ⟨gb781, 2, none⟩ (.int .i64 ((rd_T29 l0 x9_3).f2))).setCell ⟨gb781, 3, none⟩ (.int .i64 ((rd_T29 l0 x9_3).f3))).setCell ⟨gb781, 4, none⟩ (.int .i64 ((rd_T29 l0 x9_3).f4))).setCell ⟨gb781, 5, none⟩ (.int .i64 ((rd_T29 l0 x9_3).f5))).setCell ⟨gb781, 6, none⟩ (.int .i64 ((rd_T29 l0 x9_3).f6)))) := ⟨hU HB.out⟩
                  (try clear HO_5)
                  (try clear BK781)
                  (try clear HB)
                  generalize (((((((w17.setCell ⟨gb781, 0, none⟩ (.int .i64 ((rd_T29 l0 x9_3).f0))).setCell ⟨gb781, 1, none⟩ (.int .i64 ((rd_T29 l0 x9_3).f1))).setCell ⟨gb781, 2, none⟩ (.int .i64 ((rd_T29 l0 x9_3).f2))).setCell ⟨gb781, 3, none⟩ (.int .i64 ((rd_T29 l0 x9_3).f3))).setCell ⟨gb781, 4, none⟩ (.int .i64 ((rd_T29 l0 x9_3).f4))).setCell ⟨gb781, 5, none⟩ (.int .i64 ((rd_T29 l0 x9_3).f5))).setCell ⟨gb781, 6, none⟩ (.int .i64 ((rd_T29 l0 x9_3).f6))) = w19 at n0_ n1_ n2_ ⊢
                  have HO_5 := n0_
                  have BK781 := n1_
                  have HB := n2_
                  clear n0_ n1_ n2_
                  have n0_ := Aside0.mk (Kd.R_drew HO_5.out)
                  have n1_ := Aside0.mk (blk_drew BK781.out)
                  have n2_ := Aside0.mk (below_drew1 HB.out)
                  clear HO_5
                  clear BK781
                  clear HB
                  have HO_5 := n0_
                  have BK781 := n1_
                  have HB := n2_
                  clear n0_ n1_ n2_
                  have p782 : 0 ≤ (x7_1 : Int) := of_decide_eq_true (by first | (with_reducible assumption) | assumption)
                  have q782 : x7_1 < (l1.length : Int) := of_decide_eq_true (by first | (with_reducible assumption) | assumption)
                  obtain ⟨ad782, e782, hx782_0, hx782_1, hx782_2⟩ := at_T88 HR1.out x7_1 p782 q782
                  have hw782_2 := hx782_2
                  have hw782_1 := hx782_1
                  have hw782_0 := hx782_0
                  obtain rfl : ad775 = ad782 := (by injection e782)
                  replace hx782_0 := hbC HB hx782_0
                  replace hx782_1 := hbC HB hx782_1
                  replace hx782_2 := hbC HB hx782_2
                  replace p782 := eq_true p782
                  replace q782 := eq_true q782
                  refine start_ (n := 12) (S := fun w' => w'.cell? ⟨gb781, 0, none⟩ = some (.int .i64 ((rd_T29 l0 x9_3).f0)) ∧ w'.cell? ⟨gb781, 1, none⟩ = some (.int .i64 ((rd_T29 l0 x9_3).f1)) ∧ w'.cell? ⟨gb781, 2, none⟩ = some (.int .i64 ((rd_T29 l0 x9_3).f2)) ∧ w'.cell? ⟨gb781, 3, none⟩ = some (.int .i64 ((rd_T29 l0 x9_3).f3)) ∧ w'.cell? ⟨gb781, 4, none⟩ = some (.int .i64 ((rd_T29 l0 x9_3).f4)) ∧ w'.cell? ⟨gb781, 5, none⟩ = some (.int .i64 ((rd_T29 l0 x9_3).f5)) ∧ w'.cell? ⟨gb781, 6, none⟩ = some (.int .i64 ((rd_T29 l0 x9_3).f6)) ∧ w'.cell? (ad775.add ((x7_1).toNat * 3)) = some (.int .i64 ((rd_T88 l1 x7_1).f0)) ∧ w'.cell? ⟨(ad775.add ((x7_1).toNat * 3)).block, (ad775.add ((x7_1).toNat * 3)).off + 1, none⟩ = some (.int .i64 ((rd_T88 l1 x7_1).f1)) ∧ w'.cell? ⟨(ad775.add ((x7_1).toNat * 3)).block, (ad775.add ((x7_1).toNat * 3)).off + 2, none⟩ = some (.int .i64 ((rd_T88 l1 x7_1).f2))) (ds := [11]) #[false, false, false, false, false, false, false, false, false, false, false, false] (by kernel_rfl) rfl rfl ⟨(blk_cell BK781.out 0).trans rfl, (blk_cell BK781.out 1).trans rfl, (blk_cell BK781.out 2).trans rfl, (blk_cell BK781.out 3).trans rfl, (blk_cell BK781.out 4).trans rfl, (blk_cell BK781.out 5).trans rfl, (blk_cell BK781.out 6).trans rfl, (hbC HB hw782_0), (hbC HB hw782_1), (hbC HB hw782_2)⟩ (fun hHeld => ?_); refine with_tabW dancestudioref26_performed.tab13 dancestudioref26_performed.bits13 (fun HT_ HW_ => ?_)
                  generalize w19.drew = w20 at HO_5 BK781 HB hx782_0 hx782_1 hx782_2 hHeld ⊢
                  refine puA 0 61 (bs 12 1) ?_
                  refine puA 2 63 (bs 12 5) ?_
                  refine puA 3 64 (bs 12 13) ?_
                  refine puA 4 65 (bs 12 29) ?_
                  refine puA 5 66 (bs 12 61) ?_
                  refine puA 8 69 (bs 12 317) ?_
                  refine tkA 1 62 (bs 12 319) hHeld ?_
                  refine tkA 6 67 (bs 12 383) hHeld ?_
                  refine puA 7 68 (bs 12 511) ?_
                  refine puA 9 70 (bs 12 1023) ?_
                  refine puA 10 71 (bs 12 2047) ?_
                  refine last_ (i := 11) (N := none) #[true, true, true, true, true, true, true, true, true, true, true, true] rfl rfl (one_of HT_.out (by kernel_rfl)) (by decide) (fun K hK => ?_)
                  have hs21 : w20.cell? ⟨gb781, 2, none⟩ = some (.int .i64 ((rd_T29 l0 x9_3).f2)) := (blk_cell BK781.out 2).trans rfl
                  have hfs21 := blk_frozen BK781.out 2
                  refine skip_ (w1 := ?_) (by rfl) rfl ?_ ?_
                  rotate_left
                  ·go_simp
                   rfl
                  refine hK.out _ _ ?_
                  clear hK K
                  refine done_ (done_of HT_.out (by kernel_rfl)) ?_
                  have hcz22_0 := blk_cell BK781.out
                  have hfz22_0 := blk_frozen BK781.out
                  try go_wp2_with (first | ((with_reducible refine gate_builtin (b := .append) (xs := #[.tmp 72, .tmp 74]) rfl ?_); at_builtin; refine Kd.R_append k29 (w0 := w) w.heap.size rfl (.tmp 72) (.tmp 74) 22 29 (.agg #[(.int .i64 0), (.int .i64 0), (.int .i64 0), (.int .i64 0), (.int .i64 0), (.int .i64 0), (.int .i64 0)]) 56 rfl Try.underlying22 info29 rfl (by decide) (by omega) u5 x5_3 (⟨(rd_T29 l0 x9_3).f0, (rd_T29 l0 x9_3).f1, wrap64 ((wrap64 (((rd_T29 l0 x9_3).f2) - ((rd_T88 l1 x7_1).f0))) + x6_2), (rd_T29 l0 x9_3).f3, (rd_T29 l0 x9_3).f4, (rd_T29 l0 x9_3).f5, (rd_T29 l0 x9_3).f6⟩ : S29) [.int .i64 ((rd_T29 l0 x9_3).f0), .int .i64 ((rd_T29 l0 x9_3).f1), .int .i64 (wrap64 ((wrap64 (((rd_T29 l0 x9_3).f2) - ((rd_T88 l1 x7_1).f0))) + x6_2)), .int .i64 ((rd_T29 l0 x9_3).f3), .int .i64 ((rd_T29 l0 x9_3).f4), .int .i64 ((rd_T29 l0 x9_3).f5), .int .i64 ((rd_T29 l0 x9_3).f6)] (fun k_ => k_ ≠ gb781) (fun _ => False) rfl (by first | (go_simp; done) | (go_simp; rfl)) ?aP (fun _ hk => hk.elim) ?aF ?aO ?aB ?aS ?aL ?_; (case aP => exact k29_mkM _ _ _ (⟨(rd_T29 l0 x9_3).f0, (rd_T29 l0 x9_3).f1, wrap64 ((wrap64 (((rd_T29 l0 x9_3).f2) - ((rd_T88 l1 x7_1).f0))) + x6_2), (rd_T29 l0 x9_3).f3, (rd_T29 l0 x9_3).f4, (rd_T29 l0 x9_3).f5, (rd_T29 l0 x9_3).f6⟩ : S29)); (case aB => exact (hU HB.out)); (case aF => exact (fun k_ hk => Kd.freshB (g := gb781) (o := .cells #[.int .i64 ((rd_T29 l0 x9_3).f0), .int .i64 ((rd_T29 l0 x9_3).f1), .int .i64 (wrap64 ((wrap64 (((rd_T29 l0 x9_3).f2) - ((rd_T88 l1 x7_1).f0))) + x6_2)), .int .i64 ((rd_T29 l0 x9_3).f3), .int .i64 ((rd_T29 l0 x9_3).f4), .int .i64 ((rd_T29 l0 x9_3).f5), .int .i64 ((rd_T29 l0 x9_3).f6)] 29 (0, 0)) (by (with_reducible repeat (first | refine blk_drewN ?_ _ | refine blk_drew ?_ | refine blk_alloc ?_ _)); refine blk_put (cs := #[.int .i64 ((rd_T29 l0 x9_3).f0), .int .i64 ((rd_T29 l0 x9_3).f1), .int .i64 ((rd_T29 l0 x9_3).f2), .int .i64 ((rd_T29 l0 x9_3).f3), .int .i64 ((rd_T29 l0 x9_3).f4), .int .i64 ((rd_T29 l0 x9_3).f5), .int .i64 ((rd_T29 l0 x9_3).f6)]) ?_ 2 _ rfl; (with_reducible repeat (first | refine blk_drewN ?_ _ | refine blk_drew ?_ | refine blk_alloc ?_ _)); exact BK781.out) k_ hk)); (case aO => exact (by (with_reducible repeat (first | apply Kd.R_alloc | apply Kd.R_drewN | apply Kd.R_drew)); exact Kd.R_mono (Kd.R_far (p := ⟨gb781, 2, none⟩) (Kd.R_mono HO_5.out (fun k_ hk => (⟨hk, hk⟩ : _ ∧ k_ ≠ gb781))) (fun _ hk => hk.2) (.int .i64 (wrap64 ((wrap64 (((rd_T29 l0 x9_3).f2) - ((rd_T88 l1 x7_1).f0))) + x6_2)))) (fun _ hk => hk.1))); (case aS => exact (below_size (hU HB.out))); (case aL => have := LMc15.out; omega); intro v784 w23 ho hb hg hat; rw [← Ny783.out] at ho; have n0_ := Aside0.mk (blk_grown (g := gb781) (o := .cells #[.int .i64 ((rd_T29 l0 x9_3).f0), .int .i64 ((rd_T29 l0 x9_3).f1), .int .i64 (wrap64 ((wrap64 (((rd_T29 l0 x9_3).f2) - ((rd_T88 l1 x7_1).f0))) + x6_2)), .int .i64 ((rd_T29 l0 x9_3).f3), .int .i64 ((rd_T29 l0 x9_3).f4), .int .i64 ((rd_T29 l0 x9_3).f5), .int .i64 ((rd_T29 l0 x9_3).f6)] 29 (0, 0)) (by (with_reducible repeat (first | refine blk_drewN ?_ _ | refine blk_drew ?_ | refine blk_alloc ?_ _)); refine blk_put (cs := #[.int .i64 ((rd_T29 l0 x9_3).f0), .int .i64 ((rd_T29 l0 x9_3).f1), .int .i64 ((rd_T29 l0 x9_3).f2), .int .i64 ((rd_T29 l0 x9_3).f3), .int .i64 ((rd_T29 l0 x9_3).f4), .int .i64 ((rd_T29 l0 x9_3).f5), .int .i64 ((rd_T29 l0 x9_3).f6)]) ?_ 2 _ rfl; (with_reducible repeat (first | refine blk_drewN ?_ _ | refine blk_drew ?_ | refine blk_alloc ?_ _)); exact BK781.out) hg (Kd.R_away HO_5.out (fun _ hk => hk))); have n1_ := Aside0.mk (hb); have n2_ := Aside0.mk (ho); clear BK781; clear HB; clear HO_5; have BK781 := n0_; have HB := n1_; have HO785 := n2_; clear n0_ n1_ n2_; clear ho hb hg hat))
                  go_roundg k3
                  case measure => have := HK1.out; have := HK2.out; have := HK3.out; omega
                  case rel => exact ⟨(y783), (wrap64 (x9_3 + 1)), (by first | rfl | (simp; done) | (simp [*]; done)), H', ⟨by have := HK1.out; have := HK2.out; have := HK3.out; omega⟩, ⟨by (with_reducible repeat (first | apply Kd.R_alloc | apply Kd.R_drewN | apply Kd.R_drew)); exact Kd.R_mono HO785.out (fun _ hk => trivial)⟩, ⟨hU HB.out⟩⟩
                 ·rw [if_neg c15] at H
                  exact absurd H (by simp)
                ·rw [if_neg c14] at H
                 have c14b0 : decide (((rd_T29 l0 x9_3).f2) < ((rd_T88 l1 x7_1).f1)) = false := decide_eq_false c14
                 clear c14
                 have H' := Aside0.mk H
                 clear H
                 try go_wp2
                 have n0_ := Aside0.mk (Kd.R_drew HO_5.out)
                 have n1_ := Aside0.mk (below_drew1 HB.out)
                 clear HO_5
                 clear HB
                 have HO_5 := n0_
                 have HB := n1_
                 clear n0_ n1_
                 have p776 : 0 ≤ (x9_3 : Int) := of_decide_eq_true (by first | (with_reducible assumption) | assumption)
                 have q776 : x9_3 < (l0.length : Int) := of_decide_eq_true (by first | (with_reducible assumption) | assumption)
                 obtain ⟨ad776, e776, hx776_0, hx776_1, hx776_2, hx776_3, hx776_4, hx776_5, hx776_6⟩ := at_T29 HR0.out x9_3 p776 q776
                 have hw776_6 := hx776_6
                 have hw776_5 := hx776_5
                 have hw776_4 := hx776_4
                 have hw776_3 := hx776_3
                 have hw776_2 := hx776_2
                 have hw776_1 := hx776_1
                 have hw776_0 := hx776_0
                 cases e776
                 replace hx776_0 := hbC HB hx776_0
                 replace hx776_1 := hbC HB hx776_1
                 replace hx776_2 := hbC HB hx776_2
                 replace hx776_3 := hbC HB hx776_3
                 replace hx776_4 := hbC HB hx776_4
                 replace hx776_5 := hbC HB hx776_5
                 replace hx776_6 := hbC HB hx776_6
                 replace p776 := eq_true p776
                 replace q776 := eq_true q776
                 have p777 : 0 ≤ (x7_1 : Int) := of_decide_eq_true (by first | (with_reducible assumption) | assumption)
                 have q777 : x7_1 < (l1.length : Int) := of_decide_eq_true (by first | (with_reducible assumption) | assumption)
                 obtain ⟨ad777, e777, hx777_0, hx777_1, hx777_2⟩ := at_T88 HR1.out x7_1 p777 q777
                 have hw777_2 := hx777_2
                 have hw777_1 := hx777_1
                 have hw777_0 := hx777_0
                 obtain rfl : ad775 = ad777 := (by injection e777)
                 replace hx777_0 := hbC HB hx777_0
                 replace hx777_1 := hbC HB hx777_1
                 replace hx777_2 := hbC HB hx777_2
                 replace p777 := eq_true p777
                 replace q777 := eq_true q777
                 have p778 : 0 ≤ (x9_3 : Int) := of_decide_eq_true (by first | (with_reducible assumption) | assumption)
                 have q778 : x9_3 < (l0.length : Int) := of_decide_eq_true (by first | (with_reducible assumption) | assumption)
                 obtain ⟨ad778, e778, hx778_0, hx778_1, hx778_2, hx778_3, hx778_4, hx778_5, hx778_6⟩ := at_T29 HR0.out x9_3 p778 q778
                 have hw778_6 := hx778_6
                 have hw778_5 := hx778_5
                 have hw778_4 := hx778_4
                 have hw778_3 := hx778_3
                 have hw778_2 := hx778_2
                 have hw778_1 := hx778_1
                 have hw778_0 := hx778_0
                 obtain rfl : ad776 = ad778 := (by injection e778)
                 replace hx778_0 := hbC HB hx778_0
                 replace hx778_1 := hbC HB hx778_1
                 replace hx778_2 := hbC HB hx778_2
                 replace hx778_3 := hbC HB hx778_3
                 replace hx778_4 := hbC HB hx778_4
                 replace hx778_5 := hbC HB hx778_5
                 replace hx778_6 := hbC HB hx778_6
                 replace p778 := eq_true p778
                 replace q778 := eq_true q778
                 have p779 : 0 ≤ (x7_1 : Int) := of_decide_eq_true (by first | (with_reducible assumption) | assumption)
                 have q779 : x7_1 < (l1.length : Int) := of_decide_eq_true (by first | (with_reducible assumption) | assumption)
                 obtain ⟨ad779, e779, hx779_0, hx779_1, hx779_2⟩ := at_T88 HR1.out x7_1 p779 q779
                 have hw779_2 := hx779_2
                 have hw779_1 := hx779_1
                 have hw779_0 := hx779_0
                 obtain rfl : ad775 = ad779 := (by injection e779)
                 replace hx779_0 := hbC HB hx779_0
                 replace hx779_1 := hbC HB hx779_1
                 replace hx779_2 := hbC HB hx779_2
                 replace p779 := eq_true p779
                 replace q779 := eq_true q779
                 refine start_ (n := 24) (S := fun w' => w'.cell? (ad776.add ((x9_3).toNat * 7)) = some (.int .i64 ((rd_T29 l0 x9_3).f0)) ∧ w'.cell? ⟨(ad776.add ((x9_3).toNat * 7)).block, (ad776.add ((x9_3).toNat * 7)).off + 1, none⟩ = some (.int .i64 ((rd_T29 l0 x9_3).f1)) ∧ w'.cell? ⟨(ad776.add ((x9_3).toNat * 7)).block, (ad776.add ((x9_3).toNat * 7)).off + 2, none⟩ = some (.int .i64 ((rd_T29 l0 x9_3).f2)) ∧ w'.cell? ⟨(ad776.add ((x9_3).toNat * 7)).block, (ad776.add ((x9_3).toNat * 7)).off + 3, none⟩ = some (.int .i64 ((rd_T29 l0 x9_3).f3)) ∧ w'.cell? ⟨(ad776.add ((x9_3).toNat * 7)).block, (ad776.add ((x9_3).toNat * 7)).off + 4, none⟩ = some (.int .i64 ((rd_T29 l0 x9_3).f4)) ∧ w'.cell? ⟨(ad776.add ((x9_3).toNat * 7)).block, (ad776.add ((x9_3).toNat * 7)).off + 5, none⟩ = some (.int .i64 ((rd_T29 l0 x9_3).f5)) ∧ w'.cell? ⟨(ad776.add ((x9_3).toNat * 7)).block, (ad776.add ((x9_3).toNat * 7)).off + 6, none⟩ = some (.int .i64 ((rd_T29 l0 x9_3).f6)) ∧ w'.cell? (ad775.add ((x7_1).toNat * 3)) = some (.int .i64 ((rd_T88 l1 x7_1).f0)) ∧ w'.cell? ⟨(ad775.add ((x7_1).toNat * 3)).block, (ad775.add ((x7_1).toNat * 3)).off + 1, none⟩ = some (.int .i64 ((rd_T88 l1 x7_1).f1)) ∧ w'.cell? ⟨(ad775.add ((x7_1).toNat * 3)).block, (ad775.add ((x7_1).toNat * 3)).off + 2, none⟩ = some (.int .i64 ((rd_T88 l1 x7_1).f2)) ∧ w'.cell? (ad776.add ((x9_3).toNat * 7)) = some (.int .i64 ((rd_T29 l0 x9_3).f0)) ∧ w'.cell? ⟨(ad776.add ((x9_3).toNat * 7)).block, (ad776.add ((x9_3).toNat * 7)).off + 1, none⟩ = some (.int .i64 ((rd_T29 l0 x9_3).f1)) ∧ w'.cell? ⟨(ad776.add ((x9_3).toNat * 7)).block, (ad776.add ((x9_3).toNat * 7)).off + 2, none⟩ = some (.int .i64 ((rd_T29 l0 x9_3).f2)) ∧ w'.cell? ⟨(ad776.add ((x9_3).toNat * 7)).block, (ad776.add ((x9_3).toNat * 7)).off + 3, none⟩ = some (.int .i64 ((rd_T29 l0 x9_3).f3)) ∧ w'.cell? ⟨(ad776.add ((x9_3).toNat * 7)).block, (ad776.add ((x9_3).toNat * 7)).off + 4, none⟩ = some (.int .i64 ((rd_T29 l0 x9_3).f4)) ∧ w'.cell? ⟨(ad776.add ((x9_3).toNat * 7)).block, (ad776.add ((x9_3).toNat * 7)).off + 5, none⟩ = some (.int .i64 ((rd_T29 l0 x9_3).f5)) ∧ w'.cell? ⟨(ad776.add ((x9_3).toNat * 7)).block, (ad776.add ((x9_3).toNat * 7)).off + 6, none⟩ = some (.int .i64 ((rd_T29 l0 x9_3).f6)) ∧ w'.cell? (ad775.add ((x7_1).toNat * 3)) = some (.int .i64 ((rd_T88 l1 x7_1).f0)) ∧ w'.cell? ⟨(ad775.add ((x7_1).toNat * 3)).block, (ad775.add ((x7_1).toNat * 3)).off + 1, none⟩ = some (.int .i64 ((rd_T88 l1 x7_1).f1)) ∧ w'.cell? ⟨(ad775.add ((x7_1).toNat * 3)).block, (ad775.add ((x7_1).toNat * 3)).off + 2, none⟩ = some (.int .i64 ((rd_T88 l1 x7_1).f2))) (ds := []) #[false, false, false, false, false, false, false, false, false, false, false, false, false, false, false, false, false, false, false, false, false, false, false, false] (by kernel_rfl) rfl rfl ⟨(hbC HB hw776_0), (hbC HB hw776_1), (hbC HB hw776_2), (hbC HB hw776_3), (hbC HB hw776_4), (hbC HB hw776_5), (hbC HB hw776_6), (hbC HB hw777_0), (hbC HB hw777_1), (hbC HB hw777_2), (hbC HB hw778_0), (hbC HB hw778_1), (hbC HB hw778_2), (hbC HB hw778_3), (hbC HB hw778_4), (hbC HB hw778_5), (hbC HB hw778_6), (hbC HB hw779_0), (hbC HB hw779_1), (hbC HB hw779_2)⟩ (fun hHeld => ?_); refine with_tabW dancestudioref26_performed.tab11 dancestudioref26_performed.bits11 (fun HT_ HW_ => ?_)
                 generalize wr.drew = w24 at HO_5 HB hx776_0 hx776_1 hx776_2 hx776_3 hx776_4 hx776_5 hx776_6 hx777_0 hx777_1 hx777_2 hx778_0 hx778_1 hx778_2 hx778_3 hx778_4 hx778_5 hx778_6 hx779_0 hx779_1 hx779_2 hHeld ⊢
                 refine puA 0 33 (bs 24 1) ?_
                 refine puA 1 34 (bs 24 3) ?_
                 refine puA 2 35 (bs 24 7) ?_
                 refine puA 3 36 (bs 24 15) ?_
                 refine puA 5 38 (bs 24 47) ?_
                 refine puA 6 39 (bs 24 111) ?_
                 refine puA 7 40 (bs 24 239) ?_
                 refine puA 8 41 (bs 24 495) ?_
                 refine tkA 4 37 (bs 24 511) hHeld ?_
                 refine tkA 9 42 (bs 24 1023) hHeld ?_
                 refine puA 10 43 (bs 24 2047) ?_
                 refine puA 11 44 (bs 24 4095) ?_
                 refine puA 12 45 (bs 24 8191) ?_
                 refine puA 13 46 (bs 24 16383) ?_
                 refine puA 14 47 (bs 24 32767) ?_
                 refine puA 15 48 (bs 24 65535) ?_
                 refine puA 17 50 (bs 24 196607) ?_
                 refine puA 18 51 (bs 24 458751) ?_
                 refine puA 19 52 (bs 24 983039) ?_
                 refine puA 20 53 (bs 24 2031615) ?_
                 refine tkA 16 49 (bs 24 2097151) hHeld ?_
                 refine tkA 21 54 (bs 24 4194303) hHeld ?_
                 refine puA 22 55 (bs 24 8388607) ?_
                 refine puA 23 56 (bs 24 16777215) ?_
                 refine done_ (done_of HT_.out (by kernel_rfl)) ?_
                 try go_wp2
                 go_roundg k3
                 case measure => have := HK1.out; have := HK2.out; have := HK3.out; omega
                 case rel => exact ⟨(x5_3), (wrap64 (x9_3 + 1)), (by first | rfl | (simp; done) | (simp [*]; done)), H', ⟨by have := HK1.out; have := HK2.out; have := HK3.out; omega⟩, ⟨by (with_reducible repeat (first | apply Kd.R_alloc | apply Kd.R_drewN | apply Kd.R_drew)); exact HO_5.out⟩, ⟨hU HB.out⟩⟩
               ·rw [if_neg c13] at H
                have c13b0 : decide (((rd_T88 l1 x7_1).f0) ≤ ((rd_T29 l0 x9_3).f2)) = false := decide_eq_false c13
                clear c13
                have H' := Aside0.mk H
                clear H
                try go_wp2
                have n0_ := Aside0.mk (Kd.R_drew HO_5.out)
                have n1_ := Aside0.mk (below_drew1 HB.out)
                clear HO_5
                clear HB
                have HO_5 := n0_
                have HB := n1_
                clear n0_ n1_
                have p776 : 0 ≤ (x9_3 : Int) := of_decide_eq_true (by first | (with_reducible assumption) | assumption)
                have q776 : x9_3 < (l0.length : Int) := of_decide_eq_true (by first | (with_reducible assumption) | assumption)
                obtain ⟨ad776, e776, hx776_0, hx776_1, hx776_2, hx776_3, hx776_4, hx776_5, hx776_6⟩ := at_T29 HR0.out x9_3 p776 q776
                have hw776_6 := hx776_6
                have hw776_5 := hx776_5
                have hw776_4 := hx776_4
                have hw776_3 := hx776_3
                have hw776_2 := hx776_2
                have hw776_1 := hx776_1
                have hw776_0 := hx776_0
                cases e776
                replace hx776_0 := hbC HB hx776_0
                replace hx776_1 := hbC HB hx776_1
                replace hx776_2 := hbC HB hx776_2
                replace hx776_3 := hbC HB hx776_3
                replace hx776_4 := hbC HB hx776_4
                replace hx776_5 := hbC HB hx776_5
                replace hx776_6 := hbC HB hx776_6
                replace p776 := eq_true p776
                replace q776 := eq_true q776
                have p777 : 0 ≤ (x7_1 : Int) := of_decide_eq_true (by first | (with_reducible assumption) | assumption)
                have q777 : x7_1 < (l1.length : Int) := of_decide_eq_true (by first | (with_reducible assumption) | assumption)
                obtain ⟨ad777, e777, hx777_0, hx777_1, hx777_2⟩ := at_T88 HR1.out x7_1 p777 q777
                have hw777_2 := hx777_2
                have hw777_1 := hx777_1
                have hw777_0 := hx777_0
                obtain rfl : ad775 = ad777 := (by injection e777)
                replace hx777_0 := hbC HB hx777_0
                replace hx777_1 := hbC HB hx777_1
                replace hx777_2 := hbC HB hx777_2
                replace p777 := eq_true p777
                replace q777 := eq_true q777
                refine start_ (n := 24) (S := fun w' => w'.cell? (ad776.add ((x9_3).toNat * 7)) = some (.int .i64 ((rd_T29 l0 x9_3).f0)) ∧ w'.cell? ⟨(ad776.add ((x9_3).toNat * 7)).block, (ad776.add ((x9_3).toNat * 7)).off + 1, none⟩ = some (.int .i64 ((rd_T29 l0 x9_3).f1)) ∧ w'.cell? ⟨(ad776.add ((x9_3).toNat * 7)).block, (ad776.add ((x9_3).toNat * 7)).off + 2, none⟩ = some (.int .i64 ((rd_T29 l0 x9_3).f2)) ∧ w'.cell? ⟨(ad776.add ((x9_3).toNat * 7)).block, (ad776.add ((x9_3).toNat * 7)).off + 3, none⟩ = some (.int .i64 ((rd_T29 l0 x9_3).f3)) ∧ w'.cell? ⟨(ad776.add ((x9_3).toNat * 7)).block, (ad776.add ((x9_3).toNat * 7)).off + 4, none⟩ = some (.int .i64 ((rd_T29 l0 x9_3).f4)) ∧ w'.cell? ⟨(ad776.add ((x9_3).toNat * 7)).block, (ad776.add ((x9_3).toNat * 7)).off + 5, none⟩ = some (.int .i64 ((rd_T29 l0 x9_3).f5)) ∧ w'.cell? ⟨(ad776.add ((x9_3).toNat * 7)).block, (ad776.add ((x9_3).toNat * 7)).off + 6, none⟩ = some (.int .i64 ((rd_T29 l0 x9_3).f6)) ∧ w'.cell? (ad775.add ((x7_1).toNat * 3)) = some (.int .i64 ((rd_T88 l1 x7_1).f0)) ∧ w'.cell? ⟨(ad775.add ((x7_1).toNat * 3)).block, (ad775.add ((x7_1).toNat * 3)).off + 1, none⟩ = some (.int .i64 ((rd_T88 l1 x7_1).f1)) ∧ w'.cell? ⟨(ad775.add ((x7_1).toNat * 3)).block, (ad775.add ((x7_1).toNat * 3)).off + 2, none⟩ = some (.int .i64 ((rd_T88 l1 x7_1).f2))) (ds := []) #[false, false, false, false, false, false, false, false, false, false, false, false, false, false, false, false, false, false, false, false, false, false, false, false] (by kernel_rfl) rfl rfl ⟨(hbC HB hw776_0), (hbC HB hw776_1), (hbC HB hw776_2), (hbC HB hw776_3), (hbC HB hw776_4), (hbC HB hw776_5), (hbC HB hw776_6), (hbC HB hw777_0), (hbC HB hw777_1), (hbC HB hw777_2)⟩ (fun hHeld => ?_); refine with_tabW dancestudioref26_performed.tab11 dancestudioref26_performed.bits11 (fun HT_ HW_ => ?_)
                generalize wr.drew = w25 at HO_5 HB hx776_0 hx776_1 hx776_2 hx776_3 hx776_4 hx776_5 hx776_6 hx777_0 hx777_1 hx777_2 hHeld ⊢
                refine puA 0 33 (bs 24 1) ?_
                refine puA 1 34 (bs 24 3) ?_
                refine puA 2 35 (bs 24 7) ?_
                refine puA 3 36 (bs 24 15) ?_
                refine puA 5 38 (bs 24 47) ?_
                refine puA 6 39 (bs 24 111) ?_
                refine puA 7 40 (bs 24 239) ?_
                refine puA 8 41 (bs 24 495) ?_
                refine tkA 4 37 (bs 24 511) hHeld ?_
                refine tkA 9 42 (bs 24 1023) hHeld ?_
                refine puA 10 43 (bs 24 2047) ?_
                refine puA 11 44 (bs 24 4095) ?_
                refine skA 12 45 (bs 24 8191) ?_
                refine skA 13 46 (bs 24 16383) ?_
                refine skA 14 47 (bs 24 32767) ?_
                refine skA 15 48 (bs 24 65535) ?_
                refine skA 16 49 (bs 24 131071) ?_
                refine skA 17 50 (bs 24 262143) ?_
                refine skA 18 51 (bs 24 524287) ?_
                refine skA 19 52 (bs 24 1048575) ?_
                refine skA 20 53 (bs 24 2097151) ?_
                refine skA 21 54 (bs 24 4194303) ?_
                refine skA 22 55 (bs 24 8388607) ?_
                refine puA 23 56 (bs 24 16777215) ?_
                refine done_ (done_of HT_.out (by kernel_rfl)) ?_
                try go_wp2
                go_roundg k3
                case measure => have := HK1.out; have := HK2.out; have := HK3.out; omega
                case rel => exact ⟨(x5_3), (wrap64 (x9_3 + 1)), (by first | rfl | (simp; done) | (simp [*]; done)), H', ⟨by have := HK1.out; have := HK2.out; have := HK3.out; omega⟩, ⟨by (with_reducible repeat (first | apply Kd.R_alloc | apply Kd.R_drewN | apply Kd.R_drew)); exact HO_5.out⟩, ⟨hU HB.out⟩⟩
              ·rw [if_neg c12] at H
               exact absurd H (by simp)
             ·rw [if_neg c11] at H
              exact absurd H (by simp)
            ·rw [if_neg c10] at H
             exact absurd H (by simp)
           ·rw [if_neg c9] at H
            have c9b0 : decide (x9_3 < (l0.length : Int)) = false := decide_eq_false c9
            clear c9
            by_cases c26 : 0 ≤ x7_1
            ·rw [if_pos c26] at H
             have c26b0 : decide (0 ≤ x7_1) = true := decide_eq_true c26
             clear c26
             by_cases c27 : x7_1 < (l1.length : Int)
             ·rw [if_pos c27] at H
              have c27b0 : decide (x7_1 < (l1.length : Int)) = true := decide_eq_true c27
              clear c27
              have H' := Aside0.mk H
              clear H
              try go_wp2
              have n0_ := Aside0.mk (Kd.R_drew HO_5.out)
              have n1_ := Aside0.mk (below_drew1 HB.out)
              clear HO_5
              clear HB
              have HO_5 := n0_
              have HB := n1_
              clear n0_ n1_
              have p786 : 0 ≤ (x7_1 : Int) := of_decide_eq_true (by first | (with_reducible assumption) | assumption)
              have q786 : x7_1 < (l1.length : Int) := of_decide_eq_true (by first | (with_reducible assumption) | assumption)
              obtain ⟨ad786, e786, hx786_0, hx786_1, hx786_2⟩ := at_T88 HR1.out x7_1 p786 q786
              have hw786_2 := hx786_2
              have hw786_1 := hx786_1
              have hw786_0 := hx786_0
              obtain rfl : ad775 = ad786 := (by injection e786)
              replace hx786_0 := hbC HB hx786_0
              replace hx786_1 := hbC HB hx786_1
              replace hx786_2 := hbC HB hx786_2
              replace p786 := eq_true p786
              replace q786 := eq_true q786
              have p787 : 0 ≤ (x7_1 : Int) := of_decide_eq_true (by first | (with_reducible assumption) | assumption)
              have q787 : x7_1 < (l1.length : Int) := of_decide_eq_true (by first | (with_reducible assumption) | assumption)
              obtain ⟨ad787, e787, hx787_0, hx787_1, hx787_2⟩ := at_T88 HR1.out x7_1 p787 q787
              have hw787_2 := hx787_2
              have hw787_1 := hx787_1
              have hw787_0 := hx787_0
              obtain rfl : ad775 = ad787 := (by injection e787)
              replace hx787_0 := hbC HB hx787_0
              replace hx787_1 := hbC HB hx787_1
              replace hx787_2 := hbC HB hx787_2
              replace p787 := eq_true p787
              replace q787 := eq_true q787
              refine start_ (n := 14) (S := fun w' => w'.cell? (ad775.add ((x7_1).toNat * 3)) = some (.int .i64 ((rd_T88 l1 x7_1).f0)) ∧ w'.cell? ⟨(ad775.add ((x7_1).toNat * 3)).block, (ad775.add ((x7_1).toNat * 3)).off + 1, none⟩ = some (.int .i64 ((rd_T88 l1 x7_1).f1)) ∧ w'.cell? ⟨(ad775.add ((x7_1).toNat * 3)).block, (ad775.add ((x7_1).toNat * 3)).off + 2, none⟩ = some (.int .i64 ((rd_T88 l1 x7_1).f2)) ∧ w'.cell? (ad775.add ((x7_1).toNat * 3)) = some (.int .i64 ((rd_T88 l1 x7_1).f0)) ∧ w'.cell? ⟨(ad775.add ((x7_1).toNat * 3)).block, (ad775.add ((x7_1).toNat * 3)).off + 1, none⟩ = some (.int .i64 ((rd_T88 l1 x7_1).f1)) ∧ w'.cell? ⟨(ad775.add ((x7_1).toNat * 3)).block, (ad775.add ((x7_1).toNat * 3)).off + 2, none⟩ = some (.int .i64 ((rd_T88 l1 x7_1).f2))) (ds := []) #[false, false, false, false, false, false, false, false, false, false, false, false, false, false] (by kernel_rfl) rfl rfl ⟨(hbC HB hw786_0), (hbC HB hw786_1), (hbC HB hw786_2), (hbC HB hw787_0), (hbC HB hw787_1), (hbC HB hw787_2)⟩ (fun hHeld => ?_); refine with_tabW dancestudioref26_performed.tab15 dancestudioref26_performed.bits15 (fun HT_ HW_ => ?_)
              generalize wr.drew = w28 at HO_5 HB hx786_0 hx786_1 hx786_2 hx787_0 hx787_1 hx787_2 hHeld ⊢
              refine puA 0 76 (bs 14 1) ?_
              refine puA 1 77 (bs 14 3) ?_
              refine puA 2 78 (bs 14 7) ?_
              refine puA 3 79 (bs 14 15) ?_
              refine puA 4 80 (bs 14 31) ?_
              refine puA 7 83 (bs 14 159) ?_
              refine puA 8 84 (bs 14 415) ?_
              refine puA 9 85 (bs 14 927) ?_
              refine puA 10 86 (bs 14 1951) ?_
              refine tkA 5 81 (bs 14 1983) hHeld ?_
              refine puA 6 82 (bs 14 2047) ?_
              refine tkA 11 87 (bs 14 4095) hHeld ?_
              refine puA 12 88 (bs 14 8191) ?_
              refine puA 13 6 (bs 14 16383) ?_
              refine done_ (done_of HT_.out (by kernel_rfl)) ?_
              try go_wp2
              go_roundg k3
              case measure => have := HK1.out; have := HK2.out; have := HK3.out; omega
              case rel => exact ⟨(x5_3), (wrap64 ((wrap64 (x6_2 + ((rd_T88 l1 x7_1).f1))) - ((rd_T88 l1 x7_1).f0))), (wrap64 (x8_2 + 1)), (by first | rfl | (simp; done) | (simp [*]; done)), (by first | rfl | (simp; done) | (simp [*]; done)), H', ⟨by have := HK1.out; have := HK2.out; have := HK3.out; omega⟩, ⟨by (with_reducible repeat (first | apply Kd.R_alloc | apply Kd.R_drewN | apply Kd.R_drew)); exact HO_5.out⟩, ⟨hU HB.out⟩⟩
             ·rw [if_neg c27] at H
              exact absurd H (by simp)
            ·rw [if_neg c26] at H
             exact absurd H (by simp)
        ·rw [if_neg c8] at H
         have c8b0 : decide (x8_2 < ((rd_T88 l1 x7_1).f2)) = false := decide_eq_false c8
         clear c8
         have H' := Aside0.mk H
         clear H
         have p775 : 0 ≤ (x7_1 : Int) := of_decide_eq_true (by first | (with_reducible assumption) | assumption)
         have q775 : x7_1 < (l1.length : Int) := of_decide_eq_true (by first | (with_reducible assumption) | assumption)
         obtain ⟨ad775, e775, hx775_0, hx775_1, hx775_2⟩ := at_T88 HR1.out x7_1 p775 q775
         cases e775
         replace hx775_0 := hbC HB hx775_0
         replace hx775_1 := hbC HB hx775_1
         replace hx775_2 := hbC HB hx775_2
         replace p775 := eq_true p775
         replace q775 := eq_true q775
         go_wp2
         go_roundg k2
         case measure => have := HK1.out; have := HK2.out; omega
         case rel => exact ⟨(x5_2), (x6_2), (wrap64 (x7_1 + 1)), (by first | rfl | (simp; done) | (simp [*]; done)), (by first | rfl | (simp; done) | (simp [*]; done)), H', ⟨by have := HK1.out; have := HK2.out; omega⟩, ⟨by (with_reducible repeat (first | apply Kd.R_alloc | apply Kd.R_drewN | apply Kd.R_drew)); exact HO_5.out⟩, ⟨hU HB.out⟩⟩
       ·rw [if_neg c7] at H
        exact absurd H (by simp)
      ·rw [if_neg c6] at H
       exact absurd H (by simp)
   ·rw [if_neg c5] at H
    have c5b0 : decide (x7_1 < (l1.length : Int)) = false := decide_eq_false c5
    clear c5
    obtain rfl := Option.some.inj H
    go_wp2
    go_ret
    exact ⟨_, by first | rfl | (simp [errW_none, errW_some] <;> rfl) | (simp [*, errW_none, errW_some] <;> rfl), by (with_reducible repeat (first | apply Kd.R_alloc | apply Kd.R_drewN | apply Kd.R_drew)); exact HO_5.out, hU HB.out⟩

end Go.Proofs.Ytdilndbanhianaa.P

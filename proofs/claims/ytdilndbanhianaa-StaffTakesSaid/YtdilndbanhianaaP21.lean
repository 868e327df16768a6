-- Written by a program of this session (myprint.py over the kit's print): the Go functions of the seat as Lean functions, and what their calls do.
import Derived.Test.YtdilndbanhianaaUReg
import Derived.Test.YtdilndbanhianaaUMA
import Derived.Test.YtdilndbanhianaaUMB
namespace Go.Proofs.Ytdilndbanhianaa.P
open Go.RowKit Go.Proofs.YtdilndbanhianaaW.PrintWords Go.Proofs.YtdilndbanhianaaW.PrintLast Go.Proofs.YtdilndbanhianaaW.PrintMore
attribute [local go_sem] max2_int min2_int max_two min_two max_three min_three max_four min_four   -- for this text's walks alone
set_option linter.unusedVariables false
set_option linter.unusedSimpArgs false

/-! ### dancestudioref24_Take: function 26 -/
def dancestudioref24_Take.l0 : Nat → List (S29) → Int → Int → List (S29) → Int → Option ((List (S29)) × Int)
 | 0, _, _, _, _, _ => none
 | k + 1, x0, x2, x3, x11, x12 => if x12 < (x0.length : Int) then (if 0 ≤ x12 then (if ((rd_T29 x0 x12).f1) = x2 then (if ((rd_T29 x0 x12).f2) = x3 then (dancestudioref24_Take.l0 k x0 x2 x3 x11 (wrap64 (x12 + 1))) else (if x11.length < 2513169434916 then (dancestudioref24_Take.l0 k x0 x2 x3 (x11 ++ [(⟨(rd_T29 x0 x12).f0, (rd_T29 x0 x12).f1, (rd_T29 x0 x12).f2, (rd_T29 x0 x12).f3, (rd_T29 x0 x12).f4, (rd_T29 x0 x12).f5, (rd_T29 x0 x12).f6⟩ : S29)]) (wrap64 (x12 + 1))) else (none))) else (if x11.length < 2513169434916 then (dancestudioref24_Take.l0 k x0 x2 x3 (x11 ++ [(⟨(rd_T29 x0 x12).f0, (rd_T29 x0 x12).f1, (rd_T29 x0 x12).f2, (rd_T29 x0 x12).f3, (rd_T29 x0 x12).f4, (rd_T29 x0 x12).f5, (rd_T29 x0 x12).f6⟩ : S29)]) (wrap64 (x12 + 1))) else (none))) else (none)) else (if (x11.length : Int) = (x0.length : Int) then (some (([] : List (S29)), 6)) else (some (x11, 0)))
def dancestudioref24_Take.f (k : Nat) (l0 : List (S29)) (a1 : Int) (a2 : Int) (a3 : Int) : Option ((List (S29)) × Int) := (dancestudioref24_Check.f k l0 a1).bind fun t320 => (if t320 = 0 then (dancestudioref24_Take.l0 k l0 a2 a3 ([] : List (S29)) 0) else (some (([] : List (S29)), t320)))
theorem dancestudioref24_Take.mono_l : ∀ k, (∀ y0 y1 y2 y3 y4, LeO (dancestudioref24_Take.l0 k y0 y1 y2 y3 y4) (dancestudioref24_Take.l0 (k + 1) y0 y1 y2 y3 y4))
 | 0 => fun _ _ _ _ _ r h => by simp [dancestudioref24_Take.l0] at h
 | k + 1 => by
  have ih0 := dancestudioref24_Take.mono_l k
  ·intro y0 y1 y2 y3 y4
   unfold dancestudioref24_Take.l0
   repeat' first
   | (with_reducible exact ih0 _ _ _ _ _)
   | (with_reducible exact dancestudioref24_Check.mono _ _ _)
   | (with_reducible exact LeO.refl _)
   | (with_reducible exact LeO.none _)
   | (with_reducible refine LeO.ite ?_ ?_)
   | (with_reducible refine LeO.bind ?_ (fun _ => ?_))
   | exact ih0 _ _ _ _ _
   | exact dancestudioref24_Check.mono _ _ _
   | exact LeO.none _
   | refine LeO.ite ?_ ?_
   | refine LeO.bind ?_ (fun _ => ?_)
theorem dancestudioref24_Take.mono : ∀ a0 a1 a2 a3 k, LeO (dancestudioref24_Take.f k a0 a1 a2 a3) (dancestudioref24_Take.f (k + 1) a0 a1 a2 a3) := by
 intro a0 a1 a2 a3 k
 have ih0 := dancestudioref24_Take.mono_l k
 unfold dancestudioref24_Take.f
 repeat' first
   | (with_reducible exact ih0 _ _ _ _ _)
   | (with_reducible exact dancestudioref24_Check.mono _ _ _)
   | (with_reducible exact LeO.refl _)
   | (with_reducible exact LeO.none _)
   | (with_reducible refine LeO.ite ?_ ?_)
   | (with_reducible refine LeO.bind ?_ (fun _ => ?_))
   | exact ih0 _ _ _ _ _
   | exact dancestudioref24_Check.mono _ _ _
   | exact LeO.none _
   | refine LeO.ite ?_ ?_
   | refine LeO.bind ?_ (fun _ => ?_)
set_option maxHeartbeats 8000000 in
set_option maxRecDepth 100000 in
theorem dancestudioref24_Take.calls (k : Nat) (A0 : Option Addr) (c0 : Nat) (l0 : List (S29)) (a1 : Int) (a2 : Int) (a3 : Int) (r1 : List (S29)) (r2 : Int) (w : World) (hr0 : Kd.C k29 w A0 l0.length l0) (hc0 : l0.length ≤ c0) (h : dancestudioref24_Take.f k l0 a1 a2 a3 = some (r1, r2)) :
  Calls Try.prog 26 #[.slice A0 l0.length c0, .int .i64 a1, .int .i64 a2, .int .i64 a3] w fun e w' => ∃ v0_ : Value, e = .returned (.tuple #[v0_, .int .i64 r2]) ∧ Kd.R k29 29 w' w.heap.size (fun _ => True) v0_ r1 ∧ Below w.heap.size w w' := by
 have hu29 := Try.underlying29
 have HR0 := Aside0.mk hr0
 have HC0 := Aside0.mk hc0
 clear hr0 hc0
 have HB := Aside0.mk (Below.refl w.heap.size w)
 have H : ((dancestudioref24_Check.f k l0 a1).bind fun t320 => (if t320 = 0 then (dancestudioref24_Take.l0 k l0 a2 a3 ([] : List (S29)) 0) else (some (([] : List (S29)), t320)))) = some (r1, r2) := h
 clear h
 replace H := Option.bind_eq_some_iff.mp H
 obtain ⟨t320, A50, H⟩ := H
 replace H : (if t320 = 0 then (dancestudioref24_Take.l0 k l0 a2 a3 ([] : List (S29)) 0) else (some (([] : List (S29)), t320))) = some (r1, r2) := H
 have A5 := Aside0.mk A50
 clear A50
 by_cases c6 : t320 = 0
 ·rw [if_pos c6] at H
  have c6b0 : (t320 == 0) = true := beq_iff_eq.mpr c6
  have c6b1 : (t320 != 0) = false := bne_eq_false_iff_eq.mpr c6
  clear c6
  have H' := Aside0.mk H
  clear H
  go_enter Try.func26, Try.ntmps26
  go_wp2_with (first | ((with_reducible refine gate_callee (f := 21) rfl ?_); refine goesL_ (some 15) rfl rfl Try.func21 (by kernel_rfl) rfl #[.slice A0 l0.length c0, .int .i64 a1] rfl (by (try simp only [List.map_toArray, List.map_cons, List.map_nil]); first | done | rfl | (simp only [List.length_drop, List.length_take]; rfl)) ?_; (with_reducible refine (dancestudioref24_Check.calls k _ _ l0 a1 t320 _ ?side1 ?side2 A5.out).mono ?_); (case side1 => repeat (first | exact HR0.out | (with_reducible refine Kd.C_alloc ?_ _) | (with_reducible refine Kd.C_drewN ?_ _) | (with_reducible refine Kd.C_drew ?_))); (case side2 => exact HC0.out); rintro e w7 ⟨rfl, hb⟩; refine ⟨_, rfl, ?_⟩; have n0_ := Aside0.mk (below_step (hU HB.out) hb); clear HB; have HB := n0_; clear n0_; (try clear hb); (try clear hb2); (try clear hk); (try clear hi)))
  go_loopg [11, 12] k (fun kq v11 v12 w' => ∃ (x11_1 : List (S29)) (x12_1 : Int), v12 = .int .i64 x12_1 ∧ Aside0 (dancestudioref24_Take.l0 kq l0 a2 a3 x11_1 x12_1 = some (r1, r2)) ∧ Aside0 (kq ≤ k) ∧ Aside0 (Kd.R k29 29 w' w.heap.size (fun _ => True) v11 x11_1) ∧ Aside0 (Below w.heap.size w w'))
  case atStart => exact ⟨(([] : List (S29))), (0), (by first | rfl | (simp; done) | (simp [*]; done)), H', ⟨Nat.le_refl _⟩, ⟨by first | exact Kd.R_nil _ _ _ _ _ | exact Kd.N_nil _ _ _ _ _ | exact Kd.V_nil _ _ _ _ _ | exact Kd.Q_nil _ _ _ _ _ | exact Kd.S_nil _ _ _ _ _⟩, ⟨hU HB.out⟩⟩
  case round =>
   clear H'
   try clear c2
   try clear p2
   try clear c6
   try clear c6b0
   try clear c6b1
   obtain ⟨x11_1, x12_1, rfl, HA, HK1, HO_11, HB⟩ := hrel
   cases gk with
   | zero => exact absurd HA.out (by simp [dancestudioref24_Take.l0])
   | succ k1 =>
    have H := HA.out
    clear HA
    simp only [dancestudioref24_Take.l0] at H
    by_cases c8 : x12_1 < (l0.length : Int)
    ·rw [if_pos c8] at H
     have c8b0 : decide (x12_1 < (l0.length : Int)) = true := decide_eq_true c8
     clear c8
     by_cases c9 : 0 ≤ x12_1
     ·rw [if_pos c9] at H
      have c9b0 : decide (0 ≤ x12_1) = true := decide_eq_true c9
      clear c9
      by_cases c10 : ((rd_T29 l0 x12_1).f1) = a2
      ·rw [if_pos c10] at H
       have c10b0 : (((rd_T29 l0 x12_1).f1) == a2) = true := beq_iff_eq.mpr c10
       have c10b1 : (((rd_T29 l0 x12_1).f1) != a2) = false := bne_eq_false_iff_eq.mpr c10
       clear c10
       by_cases c11 : ((rd_T29 l0 x12_1).f2) = a3
       ·rw [if_pos c11] at H
        have c11b0 : (((rd_T29 l0 x12_1).f2) == a3) = true := beq_iff_eq.mpr c11
        have c11b1 : (((rd_T29 l0 x12_1).f2) != a3) = false := bne_eq_false_iff_eq.mpr c11
        clear c11
        have H' := Aside0.mk H
        clear H
        have p321 : 0 ≤ (x12_1 : Int) := of_decide_eq_true (by first | (with_reducible assumption) | assumption)
        have q321 : x12_1 < (l0.length : Int) := of_decide_eq_true (by first | (with_reducible assumption) | assumption)
        obtain ⟨ad321, e321, hx321_0, hx321_1, hx321_2, hx321_3, hx321_4, hx321_5, hx321_6⟩ := at_T29 HR0.out x12_1 p321 q321
        cases e321
        replace hx321_0 := hbC HB hx321_0
        replace hx321_1 := hbC HB hx321_1
        replace hx321_2 := hbC HB hx321_2
        replace hx321_3 := hbC HB hx321_3
        replace hx321_4 := hbC HB hx321_4
        replace hx321_5 := hbC HB hx321_5
        replace hx321_6 := hbC HB hx321_6
        replace p321 := eq_true p321
        replace q321 := eq_true q321
        have p322 : 0 ≤ (x12_1 : Int) := of_decide_eq_true (by first | (with_reducible assumption) | assumption)
        have q322 : x12_1 < (l0.length : Int) := of_decide_eq_true (by first | (with_reducible assumption) | assumption)
        obtain ⟨ad322, e322, hx322_0, hx322_1, hx322_2, hx322_3, hx322_4, hx322_5, hx322_6⟩ := at_T29 HR0.out x12_1 p322 q322
        obtain rfl : ad321 = ad322 := (by injection e322)
        replace hx322_0 := hbC HB hx322_0
        replace hx322_1 := hbC HB hx322_1
        replace hx322_2 := hbC HB hx322_2
        replace hx322_3 := hbC HB hx322_3
        replace hx322_4 := hbC HB hx322_4
        replace hx322_5 := hbC HB hx322_5
        replace hx322_6 := hbC HB hx322_6
        replace p322 := eq_true p322
        replace q322 := eq_true q322
        go_wp2
        go_roundg k1
        case measure => have := HK1.out; omega
        case rel => exact ⟨(x11_1), (wrap64 (x12_1 + 1)), (by first | rfl | (simp; done) | (simp [*]; done)), H', ⟨by have := HK1.out; omega⟩, ⟨by (with_reducible repeat (first | apply Kd.R_alloc | apply Kd.R_drewN | apply Kd.R_drew)); exact HO_11.out⟩, ⟨hU HB.out⟩⟩
       ·rw [if_neg c11] at H
        have c11b0 : (((rd_T29 l0 x12_1).f2) == a3) = false := beq_eq_false_iff_ne.mpr c11
        have c11b1 : (((rd_T29 l0 x12_1).f2) != a3) = true := bne_iff_ne.mpr c11
        by_cases c12 : x11_1.length < 2513169434916
        ·rw [if_pos c12] at H
         have LMc12 := Aside0.mk c12
         clear c12
         obtain ⟨y324, hy324⟩ : ∃ y_ : List (S29), y_ = (x11_1 ++ [(⟨(rd_T29 l0 x12_1).f0, (rd_T29 l0 x12_1).f1, (rd_T29 l0 x12_1).f2, (rd_T29 l0 x12_1).f3, (rd_T29 l0 x12_1).f4, (rd_T29 l0 x12_1).f5, (rd_T29 l0 x12_1).f6⟩ : S29)]) := ⟨_, rfl⟩
         replace H : (dancestudioref24_Take.l0 k1 l0 a2 a3 y324 (wrap64 (x12_1 + 1))) = some (r1, r2) := by first | (rw [hy324]; with_reducible exact H) | (have H2_ := (Option.bind_some _ _).symm.trans H; rw [hy324]; with_reducible exact H2_) | (have H2_ := (Option.bind_some _ _).symm.trans H; with_reducible exact H2_) | with_reducible exact H | (rw [hy324]; exact H) | exact H
         have Ny324 := Aside0.mk hy324
         clear hy324
         have H' := Aside0.mk H
         clear H
         have p321 : 0 ≤ (x12_1 : Int) := of_decide_eq_true (by first | (with_reducible assumption) | assumption)
         have q321 : x12_1 < (l0.length : Int) := of_decide_eq_true (by first | (with_reducible assumption) | assumption)
         obtain ⟨ad321, e321, hx321_0, hx321_1, hx321_2, hx321_3, hx321_4, hx321_5, hx321_6⟩ := at_T29 HR0.out x12_1 p321 q321
         cases e321
         replace hx321_0 := hbC HB hx321_0
         replace hx321_1 := hbC HB hx321_1
         replace hx321_2 := hbC HB hx321_2
         replace hx321_3 := hbC HB hx321_3
         replace hx321_4 := hbC HB hx321_4
         replace hx321_5 := hbC HB hx321_5
         replace hx321_6 := hbC HB hx321_6
         replace p321 := eq_true p321
         replace q321 := eq_true q321
         have p322 : 0 ≤ (x12_1 : Int) := of_decide_eq_true (by first | (with_reducible assumption) | assumption)
         have q322 : x12_1 < (l0.length : Int) := of_decide_eq_true (by first | (with_reducible assumption) | assumption)
         obtain ⟨ad322, e322, hx322_0, hx322_1, hx322_2, hx322_3, hx322_4, hx322_5, hx322_6⟩ := at_T29 HR0.out x12_1 p322 q322
         obtain rfl : ad321 = ad322 := (by injection e322)
         replace hx322_0 := hbC HB hx322_0
         replace hx322_1 := hbC HB hx322_1
         replace hx322_2 := hbC HB hx322_2
         replace hx322_3 := hbC HB hx322_3
         replace hx322_4 := hbC HB hx322_4
         replace hx322_5 := hbC HB hx322_5
         replace hx322_6 := hbC HB hx322_6
         replace p322 := eq_true p322
         replace q322 := eq_true q322
         have p323 : 0 ≤ (x12_1 : Int) := of_decide_eq_true (by first | (with_reducible assumption) | assumption)
         have q323 : x12_1 < (l0.length : Int) := of_decide_eq_true (by first | (with_reducible assumption) | assumption)
         obtain ⟨ad323, e323, hx323_0, hx323_1, hx323_2, hx323_3, hx323_4, hx323_5, hx323_6⟩ := at_T29 HR0.out x12_1 p323 q323
         obtain rfl : ad321 = ad323 := (by injection e323)
         replace hx323_0 := hbC HB hx323_0
         replace hx323_1 := hbC HB hx323_1
         replace hx323_2 := hbC HB hx323_2
         replace hx323_3 := hbC HB hx323_3
         replace hx323_4 := hbC HB hx323_4
         replace hx323_5 := hbC HB hx323_5
         replace hx323_6 := hbC HB hx323_6
         replace p323 := eq_true p323
         replace q323 := eq_true q323
         go_wp2_with (first | ((with_reducible refine gate_builtin (b := .append) (xs := #[.tmp 41, .tmp 46]) rfl ?_); at_builtin; refine Kd.R_append k29 (w0 := w) w.heap.size rfl (.tmp 41) (.tmp 46) 22 29 (.agg #[(.int .i64 0), (.int .i64 0), (.int .i64 0), (.int .i64 0), (.int .i64 0), (.int .i64 0), (.int .i64 0)]) 56 rfl Try.underlying22 info29 rfl (by decide) (by omega) u11 x11_1 (⟨(rd_T29 l0 x12_1).f0, (rd_T29 l0 x12_1).f1, (rd_T29 l0 x12_1).f2, (rd_T29 l0 x12_1).f3, (rd_T29 l0 x12_1).f4, (rd_T29 l0 x12_1).f5, (rd_T29 l0 x12_1).f6⟩ : S29) [.int .i64 ((rd_T29 l0 x12_1).f0), .int .i64 ((rd_T29 l0 x12_1).f1), .int .i64 ((rd_T29 l0 x12_1).f2), .int .i64 ((rd_T29 l0 x12_1).f3), .int .i64 ((rd_T29 l0 x12_1).f4), .int .i64 ((rd_T29 l0 x12_1).f5), .int .i64 ((rd_T29 l0 x12_1).f6)] (fun _ => True) (fun _ => False) rfl rfl ?aP (fun _ hk => hk.elim) ?aF ?aO ?aB ?aS ?aL ?_; (case aP => exact k29_mkM _ _ _ (⟨(rd_T29 l0 x12_1).f0, (rd_T29 l0 x12_1).f1, (rd_T29 l0 x12_1).f2, (rd_T29 l0 x12_1).f3, (rd_T29 l0 x12_1).f4, (rd_T29 l0 x12_1).f5, (rd_T29 l0 x12_1).f6⟩ : S29)); (case aB => exact (hU HB.out)); (case aF => exact (fun _ _ => trivial)); (case aO => exact (Kd.rU HO_11.out)); (case aS => exact (below_size (hU HB.out))); (case aL => have := LMc12.out; omega); intro v325 w13 ho hb hg hat; rw [← Ny324.out] at ho; have n0_ := Aside0.mk (hb); have n1_ := Aside0.mk (ho); clear HB; clear HO_11; have HB := n0_; have HO326 := n1_; clear n0_ n1_; clear ho hb hg hat))
         go_roundg k1
         case measure => have := HK1.out; omega
         case rel => exact ⟨(y324), (wrap64 (x12_1 + 1)), (by first | rfl | (simp; done) | (simp [*]; done)), H', ⟨by have := HK1.out; omega⟩, ⟨by (with_reducible repeat (first | apply Kd.R_alloc | apply Kd.R_drewN | apply Kd.R_drew)); exact HO326.out⟩, ⟨hU HB.out⟩⟩
        ·rw [if_neg c12] at H
         exact absurd H (by simp)
      ·rw [if_neg c10] at H
       have c10b0 : (((rd_T29 l0 x12_1).f1) == a2) = false := beq_eq_false_iff_ne.mpr c10
       have c10b1 : (((rd_T29 l0 x12_1).f1) != a2) = true := bne_iff_ne.mpr c10
       by_cases c14 : x11_1.length < 2513169434916
       ·rw [if_pos c14] at H
        have LMc14 := Aside0.mk c14
        clear c14
        obtain ⟨y328, hy328⟩ : ∃ y_ : List (S29), y_ = (x11_1 ++ [(⟨(rd_T29 l0 x12_1).f0, (rd_T29 l0 x12_1).f1, (rd_T29 l0 x12_1).f2, (rd_T29 l0 x12_1).f3, (rd_T29 l0 x12_1).f4, (rd_T29 l0 x12_1).f5, (rd_T29 l0 x12_1).f6⟩ : S29)]) := ⟨_, rfl⟩
        replace H : (dancestudioref24_Take.l0 k1 l0 a2 a3 y328 (wrap64 (x12_1 + 1))) = some (r1, r2) := by first | (rw [hy328]; with_reducible exact H) | (have H2_ := (Option.bind_some _ _).symm.trans H; rw [hy328]; with_reducible exact H2_) | (have H2_ := (Option.bind_some _ _).symm.trans H; with_reducible exact H2_) | with_reducible exact H | (rw [hy328]; exact H) | exact H
        have Ny328 := Aside0.mk hy328
        clear hy328
        have H' := Aside0.mk H
        clear H
        have p321 : 0 ≤ (x12_1 : Int) := of_decide_eq_true (by first | (with_reducible assumption) | assumption)
        have q321 : x12_1 < (l0.length : Int) := of_decide_eq_true (by first | (with_reducible assumption) | assumption)
        obtain ⟨ad321, e321, hx321_0, hx321_1, hx321_2, hx321_3, hx321_4, hx321_5, hx321_6⟩ := at_T29 HR0.out x12_1 p321 q321
        cases e321
        replace hx321_0 := hbC HB hx321_0
        replace hx321_1 := hbC HB hx321_1
        replace hx321_2 := hbC HB hx321_2
        replace hx321_3 := hbC HB hx321_3
        replace hx321_4 := hbC HB hx321_4
        replace hx321_5 := hbC HB hx321_5
        replace hx321_6 := hbC HB hx321_6
        replace p321 := eq_true p321
        replace q321 := eq_true q321
        have p327 : 0 ≤ (x12_1 : Int) := of_decide_eq_true (by first | (with_reducible assumption) | assumption)
        have q327 : x12_1 < (l0.length : Int) := of_decide_eq_true (by first | (with_reducible assumption) | assumption)
        obtain ⟨ad327, e327, hx327_0, hx327_1, hx327_2, hx327_3, hx327_4, hx327_5, hx327_6⟩ := at_T29 HR0.out x12_1 p327 q327
        obtain rfl : ad321 = ad327 := (by injection e327)
        replace hx327_0 := hbC HB hx327_0
        replace hx327_1 := hbC HB hx327_1
        replace hx327_2 := hbC HB hx327_2
        replace hx327_3 := hbC HB hx327_3
        replace hx327_4 := hbC HB hx327_4
        replace hx327_5 := hbC HB hx327_5
        replace hx327_6 := hbC HB hx327_6
        replace p327 := eq_true p327
        replace q327 := eq_true q327
        go_wp2_with (first | ((with_reducible refine gate_builtin (b := .append) (xs := #[.tmp 41, .tmp 46]) rfl ?_); at_builtin; refine Kd.R_append k29 (w0 := w) w.heap.size rfl (.tmp 41) (.tmp 46) 22 29 (.agg #[(.int .i64 0), (.int .i64 0), (.int .i64 0), (.int .i64 0), (.int .i64 0), (.int .i64 0), (.int .i64 0)]) 56 rfl Try.underlying22 info29 rfl (by decide) (by omega) u11 x11_1 (⟨(rd_T29 l0 x12_1).f0, (rd_T29 l0 x12_1).f1, (rd_T29 l0 x12_1).f2, (rd_T29 l0 x12_1).f3, (rd_T29 l0 x12_1).f4, (rd_T29 l0 x12_1).f5, (rd_T29 l0 x12_1).f6⟩ : S29) [.int .i64 ((rd_T29 l0 x12_1).f0), .int .i64 ((rd_T29 l0 x12_1).f1), .int .i64 ((rd_T29 l0 x12_1).f2), .int .i64 ((rd_T29 l0 x12_1).f3), .int .i64 ((rd_T29 l0 x12_1).f4), .int .i64 ((rd_T29 l0 x12_1).f5), .int .i64 ((rd_T29 l0 x12_1).f6)] (fun _ => True) (fun _ => False) rfl rfl ?aP (fun _ hk => hk.elim) ?aF ?aO ?aB ?aS ?aL ?_; (case aP => exact k29_mkM _ _ _ (⟨(rd_T29 l0 x12_1).f0, (rd_T29 l0 x12_1).f1, (rd_T29 l0 x12_1).f2, (rd_T29 l0 x12_1).f3, (rd_T29 l0 x12_1).f4, (rd_T29 l0 x12_1).f5, (rd_T29 l0 x12_1).f6⟩ : S29)); (case aB => exact (hU HB.out)); (case aF => exact (fun _ _ => trivial)); (case aO => exact (Kd.rU HO_11.out)); (case aS => exact (below_size (hU HB.out))); (case aL => have := LMc14.out; omega); intro v329 w15 ho hb hg hat; rw [← Ny328.out] at ho; have n0_ := Aside0.mk (hb); have n1_ := Aside0.mk (ho); clear HB; clear HO_11; have HB := n0_; have HO330 := n1_; clear n0_ n1_; clear ho hb hg hat))
        go_roundg k1
        case measure => have := HK1.out; omega
        case rel => exact ⟨(y328), (wrap64 (x12_1 + 1)), (by first | rfl | (simp; done) | (simp [*]; done)), H', ⟨by have := HK1.out; omega⟩, ⟨by (with_reducible repeat (first | apply Kd.R_alloc | apply Kd.R_drewN | apply Kd.R_drew)); exact HO330.out⟩, ⟨hU HB.out⟩⟩
       ·rw [if_neg c14] at H
        exact absurd H (by simp)
     ·rw [if_neg c9] at H
      exact absurd H (by simp)
    ·rw [if_neg c8] at H
     have c8b0 : decide (x12_1 < (l0.length : Int)) = false := decide_eq_false c8
     clear c8
     by_cases c16 : (x11_1.length : Int) = (l0.length : Int)
     ·rw [if_pos c16] at H
      have c16b0 : ((x11_1.length : Int) == (l0.length : Int)) = true := beq_iff_eq.mpr c16
      have c16b1 : ((x11_1.length : Int) != (l0.length : Int)) = false := bne_eq_false_iff_eq.mpr c16
      have c16b2 : (x11_1.length == l0.length) = true := by first | simpa using c16 | (simp at c16 ⊢; omega)
      clear c16
      simp only [Option.some.injEq, Prod.mk.injEq] at H
      obtain ⟨rfl, rfl⟩ := H
      obtain ⟨Ao17, co17, eo17⟩ := Kd.R_slice HO_11.out
      subst eo17
      go_wp2
      go_ret2
      exact ⟨_, by first | rfl | (simp [errW_none, errW_some] <;> rfl) | (simp [*, errW_none, errW_some] <;> rfl), by first | exact Kd.R_nil _ _ _ _ _ | exact Kd.N_nil _ _ _ _ _ | exact Kd.V_nil _ _ _ _ _ | exact Kd.Q_nil _ _ _ _ _ | exact Kd.S_nil _ _ _ _ _, hU HB.out⟩
     ·rw [if_neg c16] at H
      have c16b0 : ((x11_1.length : Int) == (l0.length : Int)) = false := beq_eq_false_iff_ne.mpr c16
      have c16b1 : ((x11_1.length : Int) != (l0.length : Int)) = true := bne_iff_ne.mpr c16
      have c16b2 : (x11_1.length == l0.length) = false := by first | simpa using c16 | (simp at c16 ⊢; omega)
      simp only [Option.some.injEq, Prod.mk.injEq] at H
      obtain ⟨rfl, rfl⟩ := H
      obtain ⟨Ao18, co18, eo18⟩ := Kd.R_slice HO_11.out
      subst eo18
      go_wp2
      go_ret2
      exact ⟨_, by first | rfl | (simp [errW_none, errW_some] <;> rfl) | (simp [*, errW_none, errW_some] <;> rfl), by (with_reducible repeat (first | apply Kd.R_alloc | apply Kd.R_drewN | apply Kd.R_drew)); exact HO_11.out, hU HB.out⟩
 ·rw [if_neg c6] at H
  have c6b0 : (t320 == 0) = false := beq_eq_false_iff_ne.mpr c6
  have c6b1 : (t320 != 0) = true := bne_iff_ne.mpr c6
  simp only [Option.some.injEq, Prod.mk.injEq] at H
  obtain ⟨rfl, rfl⟩ := H
  go_enter Try.func26, Try.ntmps26
  go_wp2_with (first | ((with_reducible refine gate_callee (f := 21) rfl ?_); refine goesL_ (some 15) rfl rfl Try.func21 (by kernel_rfl) rfl #[.slice A0 l0.length c0, .int .i64 a1] rfl (by (try simp only [List.map_toArray, List.map_cons, List.map_nil]); first | done | rfl | (simp only [List.length_drop, List.length_take]; rfl)) ?_; (with_reducible refine (dancestudioref24_Check.calls k _ _ l0 a1 t320 _ ?side1 ?side2 A5.out).mono ?_); (case side1 => repeat (first | exact HR0.out | (with_reducible refine Kd.C_alloc ?_ _) | (with_reducible refine Kd.C_drewN ?_ _) | (with_reducible refine Kd.C_drew ?_))); (case side2 => exact HC0.out); rintro e w19 ⟨rfl, hb⟩; refine ⟨_, rfl, ?_⟩; have n0_ := Aside0.mk (below_step (hU HB.out) hb); clear HB; have HB := n0_; clear n0_; (try clear hb); (try clear hb2); (try clear hk); (try clear hi)))
  go_ret2
  exact ⟨_, by first | rfl | (simp [errW_none, errW_some] <;> rfl) | (simp [*, errW_none, errW_some] <;> rfl), by first | exact Kd.R_nil _ _ _ _ _ | exact Kd.N_nil _ _ _ _ _ | exact Kd.V_nil _ _ _ _ _ | exact Kd.Q_nil _ _ _ _ _ | exact Kd.S_nil _ _ _ _ _, hU HB.out⟩

end Go.Proofs.Ytdilndbanhianaa.P

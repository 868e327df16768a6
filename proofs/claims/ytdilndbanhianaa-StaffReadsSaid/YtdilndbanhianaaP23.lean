-- Written by a program of this session (myprint.py over the kit's print): the Go functions of the seat as Lean functions, and what their calls do.
import Derived.Test.YtdilndbanhianaaUReg
import Derived.Test.YtdilndbanhianaaUMA
import Derived.Test.YtdilndbanhianaaUMB
namespace Go.Proofs.Ytdilndbanhianaa.P
open Go.RowKit Go.Proofs.YtdilndbanhianaaW.PrintWords Go.Proofs.YtdilndbanhianaaW.PrintLast Go.Proofs.YtdilndbanhianaaW.PrintMore
attribute [local go_sem] max2_int min2_int max_two min_two max_three min_three max_four min_four   -- for this text's walks alone
set_option linter.unusedVariables false
set_option linter.unusedSimpArgs false

/-! ### dancestudioref24_Column: function 29 -/
mutual
def dancestudioref24_Column.j0 : Nat → List (S29) → Int → Bool → Option ((List (S29)) × Int)
 | 0, _, _, _ => none
 | k + 1, x0, x2, x22 => if x22 = true then (some (([] : List (S29)), 16)) else (dancestudioref24_Column.l0 k x0 x2 ([] : List (S29)) 0)
def dancestudioref24_Column.l0 : Nat → List (S29) → Int → List (S29) → Int → Option ((List (S29)) × Int)
 | 0, _, _, _, _ => none
 | k + 1, x0, x2, x9, x10 => if x10 < (x0.length : Int) then (if 0 ≤ x10 then (if ((rd_T29 x0 x10).f1) = x2 then (if x9.length < 2513169434916 then (dancestudioref24_Column.l0 k x0 x2 (x9 ++ [(⟨(rd_T29 x0 x10).f0, (rd_T29 x0 x10).f1, (rd_T29 x0 x10).f2, (rd_T29 x0 x10).f3, (rd_T29 x0 x10).f4, (rd_T29 x0 x10).f5, (rd_T29 x0 x10).f6⟩ : S29)]) (wrap64 (x10 + 1))) else (none)) else (dancestudioref24_Column.l0 k x0 x2 x9 (wrap64 (x10 + 1)))) else (none)) else (some (x9, 0))
end
def dancestudioref24_Column.f (k : Nat) (l0 : List (S29)) (a1 : Int) (a2 : Int) : Option ((List (S29)) × Int) := (dancestudioref24_Check.f k l0 a1).bind fun t353 => (if t353 = 0 then (if a2 < 0 then (dancestudioref24_Column.j0 k l0 a2 true) else (dancestudioref24_Column.j0 k l0 a2 (decide (a2 ≥ 9)))) else (some (([] : List (S29)), t353)))
theorem dancestudioref24_Column.mono_l : ∀ k, (∀ y0 y1 y2, LeO (dancestudioref24_Column.j0 k y0 y1 y2) (dancestudioref24_Column.j0 (k + 1) y0 y1 y2)) ∧ (∀ y0 y1 y2 y3, LeO (dancestudioref24_Column.l0 k y0 y1 y2 y3) (dancestudioref24_Column.l0 (k + 1) y0 y1 y2 y3))
 | 0 => ⟨fun _ _ _ r h => by simp [dancestudioref24_Column.j0] at h, fun _ _ _ _ r h => by simp [dancestudioref24_Column.l0] at h⟩
 | k + 1 => by
  obtain ⟨ih0, ih1⟩ := dancestudioref24_Column.mono_l k
  refine ⟨?_, ?_⟩
  ·intro y0 y1 y2
   unfold dancestudioref24_Column.j0
   repeat' first
   | (with_reducible exact ih0 _ _ _)
   | (with_reducible exact ih1 _ _ _ _)
   | (with_reducible exact dancestudioref24_Check.mono _ _ _)
   | (with_reducible exact LeO.refl _)
   | (with_reducible exact LeO.none _)
   | (with_reducible refine LeO.ite ?_ ?_)
   | (with_reducible refine LeO.bind ?_ (fun _ => ?_))
   | exact ih0 _ _ _
   | exact ih1 _ _ _ _
   | exact dancestudioref24_Check.mono _ _ _
   | exact LeO.none _
   | refine LeO.ite ?_ ?_
   | refine LeO.bind ?_ (fun _ => ?_)
  ·intro y0 y1 y2 y3
   unfold dancestudioref24_Column.l0
   repeat' first
   | (with_reducible exact ih0 _ _ _)
   | (with_reducible exact ih1 _ _ _ _)
   | (with_reducible exact dancestudioref24_Check.mono _ _ _)
   | (with_reducible exact LeO.refl _)
   | (with_reducible exact LeO.none _)
   | (with_reducible refine LeO.ite ?_ ?_)
   | (with_reducible refine LeO.bind ?_ (fun _ => ?_))
   | exact ih0 _ _ _
   | exact ih1 _ _ _ _
   | exact dancestudioref24_Check.mono _ _ _
   | exact LeO.none _
   | refine LeO.ite ?_ ?_
   | refine LeO.bind ?_ (fun _ => ?_)
theorem dancestudioref24_Column.mono : ∀ a0 a1 a2 k, LeO (dancestudioref24_Column.f k a0 a1 a2) (dancestudioref24_Column.f (k + 1) a0 a1 a2) := by
 intro a0 a1 a2 k
 obtain ⟨ih0, ih1⟩ := dancestudioref24_Column.mono_l k
 unfold dancestudioref24_Column.f
 repeat' first
   | (with_reducible exact ih0 _ _ _)
   | (with_reducible exact ih1 _ _ _ _)
   | (with_reducible exact dancestudioref24_Check.mono _ _ _)
   | (with_reducible exact LeO.refl _)
   | (with_reducible exact LeO.none _)
   | (with_reducible refine LeO.ite ?_ ?_)
   | (with_reducible refine LeO.bind ?_ (fun _ => ?_))
   | exact ih0 _ _ _
   | exact ih1 _ _ _ _
   | exact dancestudioref24_Check.mono _ _ _
   | exact LeO.none _
   | refine LeO.ite ?_ ?_
   | refine LeO.bind ?_ (fun _ => ?_)
set_option maxHeartbeats 8000000 in
set_option maxRecDepth 100000 in
theorem dancestudioref24_Column.calls (k : Nat) (A0 : Option Addr) (c0 : Nat) (l0 : List (S29)) (a1 : Int) (a2 : Int) (r1 : List (S29)) (r2 : Int) (w : World) (hr0 : Kd.C k29 w A0 l0.length l0) (hc0 : l0.length ≤ c0) (h : dancestudioref24_Column.f k l0 a1 a2 = some (r1, r2)) :
  Calls Try.prog 29 #[.slice A0 l0.length c0, .int .i64 a1, .int .i64 a2] w fun e w' => ∃ v0_ : Value, e = .returned (.tuple #[v0_, .int .i64 r2]) ∧ Kd.R k29 29 w' w.heap.size (fun _ => True) v0_ r1 ∧ Below w.heap.size w w' := by
 have hu29 := Try.underlying29
 have HR0 := Aside0.mk hr0
 have HC0 := Aside0.mk hc0
 clear hr0 hc0
 have HB := Aside0.mk (Below.refl w.heap.size w)
 have H : ((dancestudioref24_Check.f k l0 a1).bind fun t353 => (if t353 = 0 then (if a2 < 0 then (dancestudioref24_Column.j0 k l0 a2 true) else (dancestudioref24_Column.j0 k l0 a2 (decide (a2 ≥ 9)))) else (some (([] : List (S29)), t353)))) = some (r1, r2) := h
 clear h
 replace H := Option.bind_eq_some_iff.mp H
 obtain ⟨t353, A40, H⟩ := H
 try dsimp only at H
 have A4 := Aside0.mk A40
 clear A40
 by_cases c5 : t353 = 0
 ·rw [if_pos c5] at H
  have c5b0 : (t353 == 0) = true := beq_iff_eq.mpr c5
  have c5b1 : (t353 != 0) = false := bne_eq_false_iff_eq.mpr c5
  clear c5
  have HC6 := Aside0.mk H
  clear H
  go_enter Try.func29, Try.ntmps29
  go_upto_region 4 with (first | ((with_reducible refine gate_callee (f := 21) rfl ?_); refine goesL_ (some 13) rfl rfl Try.func21 (by kernel_rfl) rfl #[.slice A0 l0.length c0, .int .i64 a1] rfl (by (try simp only [List.map_toArray, List.map_cons, List.map_nil]); first | done | rfl | (simp only [List.length_drop, List.length_take]; rfl)) ?_; (with_reducible refine (dancestudioref24_Check.calls k _ _ l0 a1 t353 _ ?side1 ?side2 A4.out).mono ?_); (case side1 => repeat (first | exact HR0.out | (with_reducible refine Kd.C_alloc ?_ _) | (with_reducible refine Kd.C_drewN ?_ _) | (with_reducible refine Kd.C_drew ?_))); (case side2 => exact HC0.out); rintro e w7 ⟨rfl, hb⟩; refine ⟨_, rfl, ?_⟩; have n0_ := Aside0.mk (below_step (hU HB.out) hb); clear HB; have HB := n0_; clear n0_; (try clear hb); (try clear hb2); (try clear hk); (try clear hi)))
  (try simp only [Act.put, List.setIfInBounds_toArray, List.set_cons_zero, List.set_cons_succ])
  go_cut [22] (fun v22 wc => ∃ (kq : Nat) (x22_5 : Bool), v22 = .bool x22_5 ∧ Aside0 (dancestudioref24_Column.j0 kq l0 a2 x22_5 = some (r1, r2)) ∧ Aside0 (kq ≤ k) ∧ Aside0 (Below w.heap.size w wc))
  case first =>
   have H := HC6.out
   clear HC6
   by_cases c8 : a2 < 0
   ·rw [if_pos c8] at H
    have c8b0 : decide (a2 < 0) = true := decide_eq_true c8
    clear c8
    (first | rw [c8b0] | (simp only [i64_w, i32_w]; rw [c8b0]) | skip)
    have H' := Aside0.mk H
    clear H
    go_wp2
    go_meet
    case rel => exact ⟨_, (true), (by first | rfl | (simp; done) | (simp [*]; done)), H', ⟨by first | omega | exact Nat.le_refl _⟩, ⟨hU HB.out⟩⟩
   ·rw [if_neg c8] at H
    have c8b0 : decide (a2 < 0) = false := decide_eq_false c8
    clear c8
    (first | rw [c8b0] | (simp only [i64_w, i32_w]; rw [c8b0]) | skip)
    have H' := Aside0.mk H
    clear H
    go_wp2
    go_meet
    case rel => exact ⟨_, (decide (a2 ≥ 9)), (by first | rfl | (simp; done) | (simp [*]; done)), H', ⟨by first | omega | exact Nat.le_refl _⟩, ⟨hU HB.out⟩⟩
  case rest =>
   clear HC6
   try clear c2
   try clear p2
   try clear c5
   try clear c5b0
   try clear c5b1
   try clear c8
   try clear c8b0
   obtain ⟨kq, x22_5, rfl, HA, HJ5, HB⟩ := hcut
   cases kq with
   | zero => exact absurd HA.out (by simp [dancestudioref24_Column.j0])
   | succ kj5 =>
    have H := HA.out
    clear HA
    simp only [dancestudioref24_Column.j0] at H
    by_cases c9 : x22_5 = true
    ·subst c9
     have H1 : (some (([] : List (S29)), 16)) = some (r1, r2) := by rw [if_pos rfl] at H; exact H
     clear H
     have H := H1
     clear H1
     simp only [Option.some.injEq, Prod.mk.injEq] at H
     obtain ⟨rfl, rfl⟩ := H
     go_wp2
     go_ret2
     exact ⟨_, by first | rfl | (simp [errW_none, errW_some] <;> rfl) | (simp [*, errW_none, errW_some] <;> rfl), by first | exact Kd.R_nil _ _ _ _ _ | exact Kd.N_nil _ _ _ _ _ | exact Kd.V_nil _ _ _ _ _ | exact Kd.Q_nil _ _ _ _ _ | exact Kd.S_nil _ _ _ _ _, hU HB.out⟩
    ·replace c9 := Bool.eq_false_iff.mpr c9
     subst c9
     have H1 : (dancestudioref24_Column.l0 kj5 l0 a2 ([] : List (S29)) 0) = some (r1, r2) := by rw [if_neg (show ¬ (false = true) by decide)] at H; exact H
     clear H
     have H := H1
     clear H1
     have H' := Aside0.mk H
     clear H
     go_wp2
     go_loopg [9, 10] kj5 (fun kq v9 v10 w' => ∃ (x9_2 : List (S29)) (x10_2 : Int), v10 = .int .i64 x10_2 ∧ Aside0 (dancestudioref24_Column.l0 kq l0 a2 x9_2 x10_2 = some (r1, r2)) ∧ Aside0 (kq ≤ kj5) ∧ Aside0 (Kd.R k29 29 w' w.heap.size (fun _ => True) v9 x9_2) ∧ Aside0 (Below w.heap.size w w'))
     case atStart => exact ⟨(([] : List (S29))), (0), (by first | rfl | (simp; done) | (simp [*]; done)), H', ⟨Nat.le_refl _⟩, ⟨by first | exact Kd.R_nil _ _ _ _ _ | exact Kd.N_nil _ _ _ _ _ | exact Kd.V_nil _ _ _ _ _ | exact Kd.Q_nil _ _ _ _ _ | exact Kd.S_nil _ _ _ _ _⟩, ⟨hU HB.out⟩⟩
     case round =>
      clear H'
      try clear c2
      try clear p2
      try clear c5
      try clear c5b0
      try clear c5b1
      try clear c8
      try clear c8b0
      try clear c9
      try clear p2
      obtain ⟨x9_2, x10_2, rfl, HA, HK2, HO_9, HB⟩ := hrel
      cases gk with
      | zero => exact absurd HA.out (by simp [dancestudioref24_Column.l0])
      | succ k2 =>
       have H := HA.out
       clear HA
       simp only [dancestudioref24_Column.l0] at H
       by_cases c10 : x10_2 < (l0.length : Int)
       ·rw [if_pos c10] at H
        have c10b0 : decide (x10_2 < (l0.length : Int)) = true := decide_eq_true c10
        clear c10
        by_cases c11 : 0 ≤ x10_2
        ·rw [if_pos c11] at H
         have c11b0 : decide (0 ≤ x10_2) = true := decide_eq_true c11
         clear c11
         by_cases c12 : ((rd_T29 l0 x10_2).f1) = a2
         ·rw [if_pos c12] at H
          have c12b0 : (((rd_T29 l0 x10_2).f1) == a2) = true := beq_iff_eq.mpr c12
          have c12b1 : (((rd_T29 l0 x10_2).f1) != a2) = false := bne_eq_false_iff_eq.mpr c12
          clear c12
          by_cases c13 : x9_2.length < 2513169434916
          ·rw [if_pos c13] at H
           have LMc13 := Aside0.mk c13
           clear c13
           obtain ⟨y356, hy356⟩ : ∃ y_ : List (S29), y_ = (x9_2 ++ [(⟨(rd_T29 l0 x10_2).f0, (rd_T29 l0 x10_2).f1, (rd_T29 l0 x10_2).f2, (rd_T29 l0 x10_2).f3, (rd_T29 l0 x10_2).f4, (rd_T29 l0 x10_2).f5, (rd_T29 l0 x10_2).f6⟩ : S29)]) := ⟨_, rfl⟩
           replace H : (dancestudioref24_Column.l0 k2 l0 a2 y356 (wrap64 (x10_2 + 1))) = some (r1, r2) := by first | (rw [hy356]; with_reducible exact H) | (have H2_ := (Option.bind_some _ _).symm.trans H; rw [hy356]; with_reducible exact H2_) | (have H2_ := (Option.bind_some _ _).symm.trans H; with_reducible exact H2_) | with_reducible exact H | (rw [hy356]; exact H) | exact H
           have Ny356 := Aside0.mk hy356
           clear hy356
           have H' := Aside0.mk H
           clear H
           have p354 : 0 ≤ (x10_2 : Int) := of_decide_eq_true (by first | (with_reducible assumption) | assumption)
           have q354 : x10_2 < (l0.length : Int) := of_decide_eq_true (by first | (with_reducible assumption) | assumption)
           obtain ⟨ad354, e354, hx354_0, hx354_1, hx354_2, hx354_3, hx354_4, hx354_5, hx354_6⟩ := at_T29 HR0.out x10_2 p354 q354
           cases e354
           replace hx354_0 := hbC HB hx354_0
           replace hx354_1 := hbC HB hx354_1
           replace hx354_2 := hbC HB hx354_2
           replace hx354_3 := hbC HB hx354_3
           replace hx354_4 := hbC HB hx354_4
           replace hx354_5 := hbC HB hx354_5
           replace hx354_6 := hbC HB hx354_6
           replace p354 := eq_true p354
           replace q354 := eq_true q354
           have p355 : 0 ≤ (x10_2 : Int) := of_decide_eq_true (by first | (with_reducible assumption) | assumption)
           have q355 : x10_2 < (l0.length : Int) := of_decide_eq_true (by first | (with_reducible assumption) | assumption)
           obtain ⟨ad355, e355, hx355_0, hx355_1, hx355_2, hx355_3, hx355_4, hx355_5, hx355_6⟩ := at_T29 HR0.out x10_2 p355 q355
           obtain rfl : ad354 = ad355 := (by injection e355)
           replace hx355_0 := hbC HB hx355_0
           replace hx355_1 := hbC HB hx355_1
           replace hx355_2 := hbC HB hx355_2
           replace hx355_3 := hbC HB hx355_3
           replace hx355_4 := hbC HB hx355_4
           replace hx355_5 := hbC HB hx355_5
           replace hx355_6 := hbC HB hx355_6
           replace p355 := eq_true p355
           replace q355 := eq_true q355
           go_wp2_with (first | ((with_reducible refine gate_builtin (b := .append) (xs := #[.tmp 36, .tmp 41]) rfl ?_); at_builtin; refine Kd.R_append k29 (w0 := w) w.heap.size rfl (.tmp 36) (.tmp 41) 22 29 (.agg #[(.int .i64 0), (.int .i64 0), (.int .i64 0), (.int .i64 0), (.int .i64 0), (.int .i64 0), (.int .i64 0)]) 56 rfl Try.underlying22 info29 rfl (by decide) (by omega) u9 x9_2 (⟨(rd_T29 l0 x10_2).f0, (rd_T29 l0 x10_2).f1, (rd_T29 l0 x10_2).f2, (rd_T29 l0 x10_2).f3, (rd_T29 l0 x10_2).f4, (rd_T29 l0 x10_2).f5, (rd_T29 l0 x10_2).f6⟩ : S29) [.int .i64 ((rd_T29 l0 x10_2).f0), .int .i64 ((rd_T29 l0 x10_2).f1), .int .i64 ((rd_T29 l0 x10_2).f2), .int .i64 ((rd_T29 l0 x10_2).f3), .int .i64 ((rd_T29 l0 x10_2).f4), .int .i64 ((rd_T29 l0 x10_2).f5), .int .i64 ((rd_T29 l0 x10_2).f6)] (fun _ => True) (fun _ => False) rfl rfl ?aP (fun _ hk => hk.elim) ?aF ?aO ?aB ?aS ?aL ?_; (case aP => exact k29_mkM _ _ _ (⟨(rd_T29 l0 x10_2).f0, (rd_T29 l0 x10_2).f1, (rd_T29 l0 x10_2).f2, (rd_T29 l0 x10_2).f3, (rd_T29 l0 x10_2).f4, (rd_T29 l0 x10_2).f5, (rd_T29 l0 x10_2).f6⟩ : S29)); (case aB => exact (hU HB.out)); (case aF => exact (fun _ _ => trivial)); (case aO => exact (Kd.rU HO_9.out)); (case aS => exact (below_size (hU HB.out))); (case aL => have := LMc13.out; omega); intro v357 w14 ho hb hg hat; rw [← Ny356.out] at ho; have n0_ := Aside0.mk (hb); have n1_ := Aside0.mk (ho); clear HB; clear HO_9; have HB := n0_; have HO358 := n1_; clear n0_ n1_; clear ho hb hg hat))
           go_roundg k2
           case measure => have := HJ5.out; have := HK2.out; omega
           case rel => exact ⟨(y356), (wrap64 (x10_2 + 1)), (by first | rfl | (simp; done) | (simp [*]; done)), H', ⟨by have := HJ5.out; have := HK2.out; omega⟩, ⟨by (with_reducible repeat (first | apply Kd.R_alloc | apply Kd.R_drewN | apply Kd.R_drew)); exact HO358.out⟩, ⟨hU HB.out⟩⟩
          ·rw [if_neg c13] at H
           exact absurd H (by simp)
         ·rw [if_neg c12] at H
          have c12b0 : (((rd_T29 l0 x10_2).f1) == a2) = false := beq_eq_false_iff_ne.mpr c12
          have c12b1 : (((rd_T29 l0 x10_2).f1) != a2) = true := bne_iff_ne.mpr c12
          have H' := Aside0.mk H
          clear H
          have p354 : 0 ≤ (x10_2 : Int) := of_decide_eq_true (by first | (with_reducible assumption) | assumption)
          have q354 : x10_2 < (l0.length : Int) := of_decide_eq_true (by first | (with_reducible assumption) | assumption)
          obtain ⟨ad354, e354, hx354_0, hx354_1, hx354_2, hx354_3, hx354_4, hx354_5, hx354_6⟩ := at_T29 HR0.out x10_2 p354 q354
          cases e354
          replace hx354_0 := hbC HB hx354_0
          replace hx354_1 := hbC HB hx354_1
          replace hx354_2 := hbC HB hx354_2
          replace hx354_3 := hbC HB hx354_3
          replace hx354_4 := hbC HB hx354_4
          replace hx354_5 := hbC HB hx354_5
          replace hx354_6 := hbC HB hx354_6
          replace p354 := eq_true p354
          replace q354 := eq_true q354
          go_wp2
          go_roundg k2
          case measure => have := HJ5.out; have := HK2.out; omega
          case rel => exact ⟨(x9_2), (wrap64 (x10_2 + 1)), (by first | rfl | (simp; done) | (simp [*]; done)), H', ⟨by have := HJ5.out; have := HK2.out; omega⟩, ⟨by (with_reducible repeat (first | apply Kd.R_alloc | apply Kd.R_drewN | apply Kd.R_drew)); exact HO_9.out⟩, ⟨hU HB.out⟩⟩
        ·rw [if_neg c11] at H
         exact absurd H (by simp)
       ·rw [if_neg c10] at H
        have c10b0 : decide (x10_2 < (l0.length : Int)) = false := decide_eq_false c10
        clear c10
        simp only [Option.some.injEq, Prod.mk.injEq] at H
        obtain ⟨rfl, rfl⟩ := H
        go_wp2
        go_ret2
        exact ⟨_, by first | rfl | (simp [errW_none, errW_some] <;> rfl) | (simp [*, errW_none, errW_some] <;> rfl), by (with_reducible repeat (first | apply Kd.R_alloc | apply Kd.R_drewN | apply Kd.R_drew)); exact HO_9.out, hU HB.out⟩
 ·rw [if_neg c5] at H
  have c5b0 : (t353 == 0) = false := beq_eq_false_iff_ne.mpr c5
  have c5b1 : (t353 != 0) = true := bne_iff_ne.mpr c5
  simp only [Option.some.injEq, Prod.mk.injEq] at H
  obtain ⟨rfl, rfl⟩ := H
  go_enter Try.func29, Try.ntmps29
  go_wp2_with (first | ((with_reducible refine gate_callee (f := 21) rfl ?_); refine goesL_ (some 13) rfl rfl Try.func21 (by kernel_rfl) rfl #[.slice A0 l0.length c0, .int .i64 a1] rfl (by (try simp only [List.map_toArray, List.map_cons, List.map_nil]); first | done | rfl | (simp only [List.length_drop, List.length_take]; rfl)) ?_; (with_reducible refine (dancestudioref24_Check.calls k _ _ l0 a1 t353 _ ?side1 ?side2 A4.out).mono ?_); (case side1 => repeat (first | exact HR0.out | (with_reducible refine Kd.C_alloc ?_ _) | (with_reducible refine Kd.C_drewN ?_ _) | (with_reducible refine Kd.C_drew ?_))); (case side2 => exact HC0.out); rintro e w15 ⟨rfl, hb⟩; refine ⟨_, rfl, ?_⟩; have n0_ := Aside0.mk (below_step (hU HB.out) hb); clear HB; have HB := n0_; clear n0_; (try clear hb); (try clear hb2); (try clear hk); (try clear hi)))
  go_ret2
  exact ⟨_, by first | rfl | (simp [errW_none, errW_some] <;> rfl) | (simp [*, errW_none, errW_some] <;> rfl), by first | exact Kd.R_nil _ _ _ _ _ | exact Kd.N_nil _ _ _ _ _ | exact Kd.V_nil _ _ _ _ _ | exact Kd.Q_nil _ _ _ _ _ | exact Kd.S_nil _ _ _ _ _, hU HB.out⟩

end Go.Proofs.Ytdilndbanhianaa.P

-- Written by a program of this session (myprint.py over the kit's print): the Go functions of the seat as Lean functions, and what their calls do.
import Derived.Test.YtdilndbanhianaaVReg
import Derived.Test.YtdilndbanhianaaVNw
import Derived.Test.YtdilndbanhianaaVMA
namespace Go.Proofs.Ytdilndbanhianaa.P
open Go.RowKit Go.Proofs.YtdilndbanhianaaW.PrintWords Go.Proofs.YtdilndbanhianaaW.PrintLast Go.Proofs.YtdilndbanhianaaW.PrintMore
attribute [local go_sem] max2_int min2_int max_two min_two max_three min_three max_four min_four   -- for this text's walks alone
set_option linter.unusedVariables false
set_option linter.unusedSimpArgs false

/-! ### repeats_within: function 73 -/
def repeats_within.l0 : Nat → List (S29) → List (S29) → Int → Int → Int → Int → Option ((List (S29)))
 | 0, _, _, _, _, _, _ => none
 | k + 1, x5, x8, x9, x10, x516000, x516001 => if x10 < x9 then (if 0 ≤ x10 then (if x10 < (x8.length : Int) then (if ((rd_T29 x8 x10).f2) ≥ x516000 then (if ((rd_T29 x8 x10).f2) < x516001 then (if x5.length < 2513169434916 then (repeats_within.l0 k (x5 ++ [(⟨(rd_T29 x8 x10).f0, (rd_T29 x8 x10).f1, (rd_T29 x8 x10).f2, (rd_T29 x8 x10).f3, (rd_T29 x8 x10).f4, (rd_T29 x8 x10).f5, (rd_T29 x8 x10).f6⟩ : S29)]) x8 x9 (wrap64 (x10 + 1)) x516000 x516001) else (none)) else (repeats_within.l0 k x5 x8 x9 (wrap64 (x10 + 1)) x516000 x516001)) else (repeats_within.l0 k x5 x8 x9 (wrap64 (x10 + 1)) x516000 x516001)) else (none)) else (none)) else (some x5)
def repeats_within.f (k : Nat) (l0 : List (S29)) (a1_0 : Int) (a1_1 : Int) : Option ((List (S29))) := repeats_within.l0 k ([] : List (S29)) l0 (l0.length : Int) 0 a1_0 a1_1
theorem repeats_within.mono_l : ∀ k, (∀ y0 y1 y2 y3 y4 y5, LeO (repeats_within.l0 k y0 y1 y2 y3 y4 y5) (repeats_within.l0 (k + 1) y0 y1 y2 y3 y4 y5))
 | 0 => fun _ _ _ _ _ _ r h => by simp [repeats_within.l0] at h
 | k + 1 => by
  have ih0 := repeats_within.mono_l k
  ·intro y0 y1 y2 y3 y4 y5
   unfold repeats_within.l0
   repeat' first
   | (with_reducible exact ih0 _ _ _ _ _ _)
   | (with_reducible exact LeO.refl _)
   | (with_reducible exact LeO.none _)
   | (with_reducible refine LeO.ite ?_ ?_)
   | (with_reducible refine LeO.bind ?_ (fun _ => ?_))
   | exact ih0 _ _ _ _ _ _
   | exact LeO.none _
   | refine LeO.ite ?_ ?_
   | refine LeO.bind ?_ (fun _ => ?_)
theorem repeats_within.mono : ∀ a0 a1 a2 k, LeO (repeats_within.f k a0 a1 a2) (repeats_within.f (k + 1) a0 a1 a2) := by
 intro a0 a1 a2 k
 have ih0 := repeats_within.mono_l k
 unfold repeats_within.f
 repeat' first
   | (with_reducible exact ih0 _ _ _ _ _ _)
   | (with_reducible exact LeO.refl _)
   | (with_reducible exact LeO.none _)
   | (with_reducible refine LeO.ite ?_ ?_)
   | (with_reducible refine LeO.bind ?_ (fun _ => ?_))
   | exact ih0 _ _ _ _ _ _
   | exact LeO.none _
   | refine LeO.ite ?_ ?_
   | refine LeO.bind ?_ (fun _ => ?_)
set_option maxHeartbeats 8000000 in
set_option maxRecDepth 100000 in
theorem repeats_within.calls (k : Nat) (A0 : Option Addr) (c0 : Nat) (l0 : List (S29)) (a1_0 : Int) (a1_1 : Int) (r : List (S29)) (w : World) (hr0 : Kd.C k29 w A0 l0.length l0) (hc0 : l0.length ≤ c0) (h : repeats_within.f k l0 a1_0 a1_1 = some r) :
  Calls Try.prog 73 #[.slice A0 l0.length c0, .agg #[.int .i64 a1_0, .int .i64 a1_1]] w fun e w' => ∃ v0_ : Value, e = .returned (v0_) ∧ Kd.R k29 29 w' w.heap.size (fun _ => True) v0_ r ∧ Below w.heap.size w w' := by
 have hu45 := Try.underlying45
 have hu29 := Try.underlying29
 have HR0 := Aside0.mk hr0
 have HC0 := Aside0.mk hc0
 clear hr0 hc0
 have HB := Aside0.mk (Below.refl w.heap.size w)
 have H : (repeats_within.l0 k ([] : List (S29)) l0 (l0.length : Int) 0 a1_0 a1_1) = some r := h
 clear h
 have H' := Aside0.mk H
 clear H
 go_enter Try.func73, Try.ntmps73
 go_wp2_with (first | ((with_reducible refine gate_dst (N := 3) rfl ?_); refine box_event ?hg (N := 3) ?hd (cs := #[.int .i64 a1_0, .int .i64 a1_1]) (t := 45) ?hr ?_; (case hd => rfl); (case hg => rfl); (case hr => first | (go_simp; done) | (go_simp; rfl)); intro gb515 hg w3 hbox hb; have n0_ := Aside0.mk (below_step (hU HB.out) hb); have n1_ := Aside0.mk (hbox); have n2_ := Aside0.mk ((by rw [hg]; exact (below_size (hU HB.out)) : w.heap.size ≤ gb515)); have n3_ := Aside0.mk ((by rw [hg]; exact (below_size (hU HB.out)) : w.heap.size ≤ gb515)); clear HB; have HB := n0_; have BK515 := n1_; have GW515 := n2_; have GE515 := n3_; clear n0_ n1_ n2_ n3_; clear hb hbox hg))
 go_loopg [5, 10] k (fun kq v5 v10 w' => ∃ (x5_1 : List (S29)) (x10_1 : Int), v10 = .int .i64 x10_1 ∧ Aside0 (repeats_within.l0 kq x5_1 l0 (l0.length : Int) x10_1 a1_0 a1_1 = some r) ∧ Aside0 (kq ≤ k) ∧ Aside0 (Kd.R k29 29 w' w.heap.size (fun _ => True) v5 x5_1) ∧ Aside0 (w'.heap[gb515]? = some (.cells #[.int .i64 a1_0, .int .i64 a1_1] 45 (0, 0))) ∧ Aside0 (Below w.heap.size w w'))
 case atStart => exact ⟨(([] : List (S29))), (0), (by first | rfl | (simp; done) | (simp [*]; done)), H', ⟨Nat.le_refl _⟩, ⟨by first | exact Kd.R_nil _ _ _ _ _ | exact Kd.N_nil _ _ _ _ _ | exact Kd.V_nil _ _ _ _ _ | exact Kd.Q_nil _ _ _ _ _ | exact Kd.S_nil _ _ _ _ _⟩, ⟨by (with_reducible repeat (first | refine blk_drewN ?_ _ | refine blk_drew ?_ | refine blk_alloc ?_ _)); exact BK515.out⟩, ⟨hU HB.out⟩⟩
 case round =>
  clear H'
  try clear p2
  obtain ⟨x5_1, x10_1, rfl, HA, HK1, HO_5, BK515, HB⟩ := hrel
  cases gk with
  | zero => exact absurd HA.out (by simp [repeats_within.l0])
  | succ k1 =>
   have H := HA.out
   clear HA
   simp only [repeats_within.l0] at H
   by_cases c4 : x10_1 < (l0.length : Int)
   ·rw [if_pos c4] at H
    have c4b0 : decide (x10_1 < (l0.length : Int)) = true := decide_eq_true c4
    clear c4
    by_cases c5 : 0 ≤ x10_1
    ·rw [if_pos c5] at H
     have c5b0 : decide (0 ≤ x10_1) = true := decide_eq_true c5
     clear c5
     by_cases c6 : x10_1 < (l0.length : Int)
     ·rw [if_pos c6] at H
      have c6b0 : decide (x10_1 < (l0.length : Int)) = true := decide_eq_true c6
      clear c6
      by_cases c7 : ((rd_T29 l0 x10_1).f2) ≥ a1_0
      ·rw [if_pos c7] at H
       have c7b0 : decide (a1_0 ≤ ((rd_T29 l0 x10_1).f2)) = true := decide_eq_true c7
       clear c7
       by_cases c8 : ((rd_T29 l0 x10_1).f2) < a1_1
       ·rw [if_pos c8] at H
        have c8b0 : decide (((rd_T29 l0 x10_1).f2) < a1_1) = true := decide_eq_true c8
        clear c8
        by_cases c9 : x5_1.length < 2513169434916
        ·rw [if_pos c9] at H
         have LMc9 := Aside0.mk c9
         clear c9
         obtain ⟨y518, hy518⟩ : ∃ y_ : List (S29), y_ = (x5_1 ++ [(⟨(rd_T29 l0 x10_1).f0, (rd_T29 l0 x10_1).f1, (rd_T29 l0 x10_1).f2, (rd_T29 l0 x10_1).f3, (rd_T29 l0 x10_1).f4, (rd_T29 l0 x10_1).f5, (rd_T29 l0 x10_1).f6⟩ : S29)]) := ⟨_, rfl⟩
         replace H : (repeats_within.l0 k1 y518 l0 (l0.length : Int) (wrap64 (x10_1 + 1)) a1_0 a1_1) = some r := by first | (rw [hy518]; with_reducible exact H) | (have H2_ := (Option.bind_some _ _).symm.trans H; rw [hy518]; with_reducible exact H2_) | (have H2_ := (Option.bind_some _ _).symm.trans H; with_reducible exact H2_) | with_reducible exact H | (rw [hy518]; exact H) | exact H
         have Ny518 := Aside0.mk hy518
         clear hy518
         have H' := Aside0.mk H
         clear H
         have p516 : 0 ≤ (x10_1 : Int) := of_decide_eq_true (by first | (with_reducible assumption) | assumption)
         have q516 : x10_1 < (l0.length : Int) := of_decide_eq_true (by first | (with_reducible assumption) | assumption)
         obtain ⟨ad516, e516, hx516_0, hx516_1, hx516_2, hx516_3, hx516_4, hx516_5, hx516_6⟩ := at_T29 HR0.out x10_1 p516 q516
         cases e516
         replace hx516_0 := hbC HB hx516_0
         replace hx516_1 := hbC HB hx516_1
         replace hx516_2 := hbC HB hx516_2
         replace hx516_3 := hbC HB hx516_3
         replace hx516_4 := hbC HB hx516_4
         replace hx516_5 := hbC HB hx516_5
         replace hx516_6 := hbC HB hx516_6
         replace p516 := eq_true p516
         replace q516 := eq_true q516
         go_wp2_with (first | ((with_reducible refine gate_dst (N := 7) rfl ?_); refine box_event ?hg (N := 7) ?hd (cs := #[.int .i64 0, .int .i64 0, .int .i64 0, .int .i64 0, .int .i64 0, .int .i64 0, .int .i64 0]) (t := 29) ?hr ?_; (case hd => rfl); (case hg => rfl); (case hr => first | (go_simp; done) | (go_simp; rfl)); intro gb517 hg w10 hbox hb; have n0_ := Aside0.mk (Kd.R_below (Kd.R_elderB (Kd.rU HO_5.out) gb517 (Nat.le_of_eq hg.symm)) hb); have n1_ := Aside0.mk (blk_below (bU BK515.out) hb); have n2_ := Aside0.mk (below_step (hU HB.out) hb); have n3_ := Aside0.mk (hbox); have n4_ := Aside0.mk ((by rw [hg]; exact (below_size (hU HB.out)) : w.heap.size ≤ gb517)); have n5_ := Aside0.mk ((by rw [hg]; exact (below_size (hU HB.out)) : w.heap.size ≤ gb517)); have n6_ := Aside0.mk ((by rw [hg]; exact Nat.ne_of_lt (blk_lt (bU BK515.out)) : gb515 ≠ gb517)); have n7_ := Aside0.mk ((by rw [hg]; exact Nat.ne_of_gt (blk_lt (bU BK515.out)) : gb517 ≠ gb515)); clear HO_5; clear BK515; clear HB; have HO_5 := n0_; have BK515 := n1_; have HB := n2_; have BK517 := n3_; have GW517 := n4_; have GE517 := n5_; have NB515_517 := n6_; have NB517_515 := n7_; clear n0_ n1_ n2_ n3_ n4_ n5_ n6_ n7_; clear hb hbox hg; have hnb11 := NB517_515.out; have hnc11 := NB515_517.out; have hcz12_0 := blk_cell BK517.out; have hfz12_0 := blk_frozen BK517.out; have hcz13_0 := blk_cell BK515.out; have hfz13_0 := blk_frozen BK515.out) | ((with_reducible refine gate_builtin (b := .append) (xs := #[.tmp 26, .tmp 28]) rfl ?_); at_builtin; refine Kd.R_append k29 (w0 := w) w.heap.size rfl (.tmp 26) (.tmp 28) 22 29 (.agg #[(.int .i64 0), (.int .i64 0), (.int .i64 0), (.int .i64 0), (.int .i64 0), (.int .i64 0), (.int .i64 0)]) 56 rfl Try.underlying22 info29 rfl (by decide) (by omega) u5 x5_1 (⟨(rd_T29 l0 x10_1).f0, (rd_T29 l0 x10_1).f1, (rd_T29 l0 x10_1).f2, (rd_T29 l0 x10_1).f3, (rd_T29 l0 x10_1).f4, (rd_T29 l0 x10_1).f5, (rd_T29 l0 x10_1).f6⟩ : S29) [.int .i64 ((rd_T29 l0 x10_1).f0), .int .i64 ((rd_T29 l0 x10_1).f1), .int .i64 ((rd_T29 l0 x10_1).f2), .int .i64 ((rd_T29 l0 x10_1).f3), .int .i64 ((rd_T29 l0 x10_1).f4), .int .i64 ((rd_T29 l0 x10_1).f5), .int .i64 ((rd_T29 l0 x10_1).f6)] (fun k_ => k_ ≠ gb517) (fun _ => False) rfl (by first | (go_simp; done) | (go_simp; rfl)) ?aP (fun _ hk => hk.elim) ?aF ?aO ?aB ?aS ?aL ?_; (case aP => exact k29_mkM _ _ _ (⟨(rd_T29 l0 x10_1).f0, (rd_T29 l0 x10_1).f1, (rd_T29 l0 x10_1).f2, (rd_T29 l0 x10_1).f3, (rd_T29 l0 x10_1).f4, (rd_T29 l0 x10_1).f5, (rd_T29 l0 x10_1).f6⟩ : S29)); (case aB => exact (hU HB.out)); (case aF => exact (fun k_ hk => Kd.freshB (g := gb517) (o := .cells #[.int .i64 ((rd_T29 l0 x10_1).f0), .int .i64 ((rd_T29 l0 x10_1).f1), .int .i64 ((rd_T29 l0 x10_1).f2), .int .i64 ((rd_T29 l0 x10_1).f3), .int .i64 ((rd_T29 l0 x10_1).f4), .int .i64 ((rd_T29 l0 x10_1).f5), .int .i64 ((rd_T29 l0 x10_1).f6)] 29 (0, 0)) (by (with_reducible repeat (first | refine blk_drewN ?_ _ | refine blk_drew ?_ | refine blk_alloc ?_ _)); apply blk_put; (iterate 6 ((with_reducible repeat (first | refine blk_drewN ?_ _ | refine blk_drew ?_ | refine blk_alloc ?_ _)); apply blk_set)); (with_reducible repeat (first | refine blk_drewN ?_ _ | refine blk_drew ?_ | refine blk_alloc ?_ _)); exact BK517.out; simp only [List.setIfInBounds_toArray, List.set_cons_zero, List.set_cons_succ]) k_ hk)); (case aO => exact (by (with_reducible repeat (first | apply Kd.R_alloc | apply Kd.R_drewN | apply Kd.R_drew)); exact Kd.R_mono (Kd.R_far (p := ⟨gb517, 6, none⟩) (Kd.R_far (p := ⟨gb517, 5, none⟩) (Kd.R_far (p := ⟨gb517, 4, none⟩) (Kd.R_far (p := ⟨gb517, 3, none⟩) (Kd.R_far (p := ⟨gb517, 2, none⟩) (Kd.R_far (p := ⟨gb517, 1, none⟩) (Kd.R_far (p := ⟨gb517, 0, none⟩) (Kd.R_mono HO_5.out (fun k_ hk => (⟨hk, hk.2⟩ : _ ∧ k_ ≠ gb517))) (fun _ hk => hk.2) (.int .i64 ((rd_T29 l0 x10_1).f0))) (fun _ hk => hk.2) (.int .i64 ((rd_T29 l0 x10_1).f1))) (fun _ hk => hk.2) (.int .i64 ((rd_T29 l0 x10_1).f2))) (fun _ hk => hk.2) (.int .i64 ((rd_T29 l0 x10_1).f3))) (fun _ hk => hk.2) (.int .i64 ((rd_T29 l0 x10_1).f4))) (fun _ hk => hk.2) (.int .i64 ((rd_T29 l0 x10_1).f5))) (fun _ hk => hk.2) (.int .i64 ((rd_T29 l0 x10_1).f6))) (fun _ hk => hk.1.2))); (case aS => exact (below_size (hU HB.out))); (case aL => have := LMc9.out; omega); intro v519 w14 ho hb hg hat; rw [← Ny518.out] at ho; have n0_ := Aside0.mk (blk_grown (g := gb515) (o := .cells #[.int .i64 a1_0, .int .i64 a1_1] 45 (0, 0)) (by (iterate 7 ((with_reducible repeat (first | refine blk_drewN ?_ _ | refine blk_drew ?_ | refine blk_alloc ?_ _)); refine (Below.heap_setCell _ ⟨_, _, none⟩ _ _ NB515_517.out).trans ?_)); (with_reducible repeat (first | refine blk_drewN ?_ _ | refine blk_drew ?_ | refine blk_alloc ?_ _)); exact BK515.out) hg (Kd.R_ne HO_5.out BK515.out (by decide))); have n1_ := Aside0.mk (blk_grown (g := gb517) (o := .cells #[.int .i64 ((rd_T29 l0 x10_1).f0), .int .i64 ((rd_T29 l0 x10_1).f1), .int .i64 ((rd_T29 l0 x10_1).f2), .int .i64 ((rd_T29 l0 x10_1).f3), .int .i64 ((rd_T29 l0 x10_1).f4), .int .i64 ((rd_T29 l0 x10_1).f5), .int .i64 ((rd_T29 l0 x10_1).f6)] 29 (0, 0)) (by (with_reducible repeat (first | refine blk_drewN ?_ _ | refine blk_drew ?_ | refine blk_alloc ?_ _)); apply blk_put; (iterate 6 ((with_reducible repeat (first | refine blk_drewN ?_ _ | refine blk_drew ?_ | refine blk_alloc ?_ _)); apply blk_set)); (with_reducible repeat (first | refine blk_drewN ?_ _ | refine blk_drew ?_ | refine blk_alloc ?_ _)); exact BK517.out; simp only [List.setIfInBounds_toArray, List.set_cons_zero, List.set_cons_succ]) hg (Kd.R_away HO_5.out (fun _ hk => hk.2))); have n2_ := Aside0.mk (hb); have n3_ := Aside0.mk (ho); clear BK515; clear BK517; clear HB; clear HO_5; have BK515 := n0_; have BK517 := n1_; have HB := n2_; have HO520 := n3_; clear n0_ n1_ n2_ n3_; clear ho hb hg hat))
         go_roundg k1
         case measure => have := HK1.out; omega
         case rel => exact ⟨(y518), (wrap64 (x10_1 + 1)), (by first | rfl | (simp; done) | (simp [*]; done)), H', ⟨by have := HK1.out; omega⟩, ⟨by (with_reducible repeat (first | apply Kd.R_alloc | apply Kd.R_drewN | apply Kd.R_drew)); exact Kd.R_mono HO520.out (fun _ hk => trivial)⟩, ⟨by (with_reducible repeat (first | refine blk_drewN ?_ _ | refine blk_drew ?_ | refine blk_alloc ?_ _)); exact BK515.out⟩, ⟨hU HB.out⟩⟩
        ·rw [if_neg c9] at H
         exact absurd H (by simp)
       ·rw [if_neg c8] at H
        have c8b0 : decide (((rd_T29 l0 x10_1).f2) < a1_1) = false := decide_eq_false c8
        clear c8
        have H' := Aside0.mk H
        clear H
        have p516 : 0 ≤ (x10_1 : Int) := of_decide_eq_true (by first | (with_reducible assumption) | assumption)
        have q516 : x10_1 < (l0.length : Int) := of_decide_eq_true (by first | (with_reducible assumption) | assumption)
        obtain ⟨ad516, e516, hx516_0, hx516_1, hx516_2, hx516_3, hx516_4, hx516_5, hx516_6⟩ := at_T29 HR0.out x10_1 p516 q516
        cases e516
        replace hx516_0 := hbC HB hx516_0
        replace hx516_1 := hbC HB hx516_1
        replace hx516_2 := hbC HB hx516_2
        replace hx516_3 := hbC HB hx516_3
        replace hx516_4 := hbC HB hx516_4
        replace hx516_5 := hbC HB hx516_5
        replace hx516_6 := hbC HB hx516_6
        replace p516 := eq_true p516
        replace q516 := eq_true q516
        go_wp2_with (first | ((with_reducible refine gate_dst (N := 7) rfl ?_); refine box_event ?hg (N := 7) ?hd (cs := #[.int .i64 0, .int .i64 0, .int .i64 0, .int .i64 0, .int .i64 0, .int .i64 0, .int .i64 0]) (t := 29) ?hr ?_; (case hd => rfl); (case hg => rfl); (case hr => first | (go_simp; done) | (go_simp; rfl)); intro gb517 hg w15 hbox hb; have n0_ := Aside0.mk (Kd.R_below (Kd.R_elderB (Kd.rU HO_5.out) gb517 (Nat.le_of_eq hg.symm)) hb); have n1_ := Aside0.mk (blk_below (bU BK515.out) hb); have n2_ := Aside0.mk (below_step (hU HB.out) hb); have n3_ := Aside0.mk (hbox); have n4_ := Aside0.mk ((by rw [hg]; exact (below_size (hU HB.out)) : w.heap.size ≤ gb517)); have n5_ := Aside0.mk ((by rw [hg]; exact (below_size (hU HB.out)) : w.heap.size ≤ gb517)); have n6_ := Aside0.mk ((by rw [hg]; exact Nat.ne_of_lt (blk_lt (bU BK515.out)) : gb515 ≠ gb517)); have n7_ := Aside0.mk ((by rw [hg]; exact Nat.ne_of_gt (blk_lt (bU BK515.out)) : gb517 ≠ gb515)); clear HO_5; clear BK515; clear HB; have HO_5 := n0_; have BK515 := n1_; have HB := n2_; have BK517 := n3_; have GW517 := n4_; have GE517 := n5_; have NB515_517 := n6_; have NB517_515 := n7_; clear n0_ n1_ n2_ n3_ n4_ n5_ n6_ n7_; clear hb hbox hg; have hnb16 := NB517_515.out; have hnc16 := NB515_517.out; have hcz17_0 := blk_cell BK517.out; have hfz17_0 := blk_frozen BK517.out; have hcz18_0 := blk_cell BK515.out; have hfz18_0 := blk_frozen BK515.out))
        go_roundg k1
        case measure => have := HK1.out; omega
        case rel => exact ⟨(x5_1), (wrap64 (x10_1 + 1)), (by first | rfl | (simp; done) | (simp [*]; done)), H', ⟨by have := HK1.out; omega⟩, ⟨by (with_reducible repeat (first | apply Kd.R_alloc | apply Kd.R_drewN | apply Kd.R_drew)); exact Kd.R_mono (Kd.R_far (p := ⟨gb517, 6, none⟩) (Kd.R_far (p := ⟨gb517, 5, none⟩) (Kd.R_far (p := ⟨gb517, 4, none⟩) (Kd.R_far (p := ⟨gb517, 3, none⟩) (Kd.R_far (p := ⟨gb517, 2, none⟩) (Kd.R_far (p := ⟨gb517, 1, none⟩) (Kd.R_far (p := ⟨gb517, 0, none⟩) (Kd.R_mono HO_5.out (fun k_ hk => (⟨hk, hk.2⟩ : _ ∧ k_ ≠ gb517))) (fun _ hk => hk.2) (.int .i64 ((rd_T29 l0 x10_1).f0))) (fun _ hk => hk.2) (.int .i64 ((rd_T29 l0 x10_1).f1))) (fun _ hk => hk.2) (.int .i64 ((rd_T29 l0 x10_1).f2))) (fun _ hk => hk.2) (.int .i64 ((rd_T29 l0 x10_1).f3))) (fun _ hk => hk.2) (.int .i64 ((rd_T29 l0 x10_1).f4))) (fun _ hk => hk.2) (.int .i64 ((rd_T29 l0 x10_1).f5))) (fun _ hk => hk.2) (.int .i64 ((rd_T29 l0 x10_1).f6))) (fun _ hk => trivial)⟩, ⟨by (with_reducible repeat (first | refine blk_drewN ?_ _ | refine blk_drew ?_ | refine blk_alloc ?_ _)); refine (Below.heap_setCell _ ⟨_, _, none⟩ _ _ NB515_517.out).trans ?_; (with_reducible repeat (first | refine blk_drewN ?_ _ | refine blk_drew ?_ | refine blk_alloc ?_ _)); refine (Below.heap_setCell _ ⟨_, _, none⟩ _ _ NB515_517.out).trans ?_; (with_reducible repeat (first | refine blk_drewN ?_ _ | refine blk_drew ?_ | refine blk_alloc ?_ _)); refine (Below.heap_setCell _ ⟨_, _, none⟩ _ _ NB515_517.out).trans ?_; (with_reducible repeat (first | refine blk_drewN ?_ _ | refine blk_drew ?_ | refine blk_alloc ?_ _)); refine (Below.heap_setCell _ ⟨_, _, none⟩ _ _ NB515_517.out).trans ?_; (with_reducible repeat (first | refine blk_drewN ?_ _ | refine blk_drew ?_ | refine blk_alloc ?_ _)); refine (Below.heap_setCell _ ⟨_, _, none⟩ _ _ NB515_517.out).trans ?_; (with_reducible repeat (first | refine blk_drewN ?_ _ | refine blk_drew ?_ | refine blk_alloc ?_ _)); refine (Below.heap_setCell _ ⟨_, _, none⟩ _ _ NB515_517.out).trans ?_; (with_reducible repeat (first | refine blk_drewN ?_ _ | refine blk_drew ?_ | refine blk_alloc ?_ _)); refine (Below.heap_setCell _ ⟨_, _, none⟩ _ _ NB515_517.out).trans ?_; (with_reducible repeat (first | refine blk_drewN ?_ _ | refine blk_drew ?_ | refine blk_alloc ?_ _)); exact BK515.out⟩, ⟨hU HB.out⟩⟩
      ·rw [if_neg c7] at H
       have c7b0 : decide (a1_0 ≤ ((rd_T29 l0 x10_1).f2)) = false := decide_eq_false c7
       clear c7
       have H' := Aside0.mk H
       clear H
       have p516 : 0 ≤ (x10_1 : Int) := of_decide_eq_true (by first | (with_reducible assumption) | assumption)
       have q516 : x10_1 < (l0.length : Int) := of_decide_eq_true (by first | (with_reducible assumption) | assumption)
       obtain ⟨ad516, e516, hx516_0, hx516_1, hx516_2, hx516_3, hx516_4, hx516_5, hx516_6⟩ := at_T29 HR0.out x10_1 p516 q516
       cases e516
       replace hx516_0 := hbC HB hx516_0
       replace hx516_1 := hbC HB hx516_1
       replace hx516_2 := hbC HB hx516_2
       replace hx516_3 := hbC HB hx516_3
       replace hx516_4 := hbC HB hx516_4
       replace hx516_5 := hbC HB hx516_5
       replace hx516_6 := hbC HB hx516_6
       replace p516 := eq_true p516
       replace q516 := eq_true q516
       go_wp2_with (first | ((with_reducible refine gate_dst (N := 7) rfl ?_); refine box_event ?hg (N := 7) ?hd (cs := #[.int .i64 0, .int .i64 0, .int .i64 0, .int .i64 0, .int .i64 0, .int .i64 0, .int .i64 0]) (t := 29) ?hr ?_; (case hd => rfl); (case hg => rfl); (case hr => first | (go_simp; done) | (go_simp; rfl)); intro gb517 hg w19 hbox hb; have n0_ := Aside0.mk (Kd.R_below (Kd.R_elderB (Kd.rU HO_5.out) gb517 (Nat.le_of_eq hg.symm)) hb); have n1_ := Aside0.mk (blk_below (bU BK515.out) hb); have n2_ := Aside0.mk (below_step (hU HB.out) hb); have n3_ := Aside0.mk (hbox); have n4_ := Aside0.mk ((by rw [hg]; exact (below_size (hU HB.out)) : w.heap.size ≤ gb517)); have n5_ := Aside0.mk ((by rw [hg]; exact (below_size (hU HB.out)) : w.heap.size ≤ gb517)); have n6_ := Aside0.mk ((by rw [hg]; exact Nat.ne_of_lt (blk_lt (bU BK515.out)) : gb515 ≠ gb517)); have n7_ := Aside0.mk ((by rw [hg]; exact Nat.ne_of_gt (blk_lt (bU BK515.out)) : gb517 ≠ gb515)); clear HO_5; clear BK515; clear HB; have HO_5 := n0_; have BK515 := n1_; have HB := n2_; have BK517 := n3_; have GW517 := n4_; have GE517 := n5_; have NB515_517 := n6_; have NB517_515 := n7_; clear n0_ n1_ n2_ n3_ n4_ n5_ n6_ n7_; clear hb hbox hg; have hnb20 := NB517_515.out; have hnc20 := NB515_517.out; have hcz21_0 := blk_cell BK517.out; have hfz21_0 := blk_frozen BK517.out; have hcz22_0 := blk_cell BK515.out; have hfz22_0 := blk_frozen BK515.out))
       go_roundg k1
       case measure => have := HK1.out; omega
       case rel => exact ⟨(x5_1), (wrap64 (x10_1 + 1)), (by first | rfl | (simp; done) | (simp [*]; done)), H', ⟨by have := HK1.out; omega⟩, ⟨by (with_reducible repeat (first | apply Kd.R_alloc | apply Kd.R_drewN | apply Kd.R_drew)); exact Kd.R_mono (Kd.R_far (p := ⟨gb517, 6, none⟩) (Kd.R_far (p := ⟨gb517, 5, none⟩) (Kd.R_far (p := ⟨gb517, 4, none⟩) (Kd.R_far (p := ⟨gb517, 3, none⟩) (Kd.R_far (p := ⟨gb517, 2, none⟩) (Kd.R_far (p := ⟨gb517, 1, none⟩) (Kd.R_far (p := ⟨gb517, 0, none⟩) (Kd.R_mono HO_5.out (fun k_ hk => (⟨hk, hk.2⟩ : _ ∧ k_ ≠ gb517))) (fun _ hk => hk.2) (.int .i64 ((rd_T29 l0 x10_1).f0))) (fun _ hk => hk.2) (.int .i64 ((rd_T29 l0 x10_1).f1))) (fun _ hk => hk.2) (.int .i64 ((rd_T29 l0 x10_1).f2))) (fun _ hk => hk.2) (.int .i64 ((rd_T29 l0 x10_1).f3))) (fun _ hk => hk.2) (.int .i64 ((rd_T29 l0 x10_1).f4))) (fun _ hk => hk.2) (.int .i64 ((rd_T29 l0 x10_1).f5))) (fun _ hk => hk.2) (.int .i64 ((rd_T29 l0 x10_1).f6))) (fun _ hk => trivial)⟩, ⟨by (with_reducible repeat (first | refine blk_drewN ?_ _ | refine blk_drew ?_ | refine blk_alloc ?_ _)); refine (Below.heap_setCell _ ⟨_, _, none⟩ _ _ NB515_517.out).trans ?_; (with_reducible repeat (first | refine blk_drewN ?_ _ | refine blk_drew ?_ | refine blk_alloc ?_ _)); refine (Below.heap_setCell _ ⟨_, _, none⟩ _ _ NB515_517.out).trans ?_; (with_reducible repeat (first | refine blk_drewN ?_ _ | refine blk_drew ?_ | refine blk_alloc ?_ _)); refine (Below.heap_setCell _ ⟨_, _, none⟩ _ _ NB515_517.out).trans ?_; (with_reducible repeat (first | refine blk_drewN ?_ _ | refine blk_drew ?_ | refine blk_alloc ?_ _)); refine (Below.heap_setCell _ ⟨_, _, none⟩ _ _ NB515_517.out).trans ?_; (with_reducible repeat (first | refine blk_drewN ?_ _ | refine blk_drew ?_ | refine blk_alloc ?_ _)); refine (Below.heap_setCell _ ⟨_, _, none⟩ _ _ NB515_517.out).trans ?_; (with_reducible repeat (first | refine blk_drewN ?_ _ | refine blk_drew ?_ | refine blk_alloc ?_ _)); refine (Below.heap_setCell _ ⟨_, _, none⟩ _ _ NB515_517.out).trans ?_; (with_reducible repeat (first | refine blk_drewN ?_ _ | refine blk_drew ?_ | refine blk_alloc ?_ _)); refine (Below.heap_setCell _ ⟨_, _, none⟩ _ _ NB515_517.out).trans ?_; (with_reducible repeat (first | refine blk_drewN ?_ _ | refine blk_drew ?_ | refine blk_alloc ?_ _)); exact BK515.out⟩, ⟨hU HB.out⟩⟩
     ·rw [if_neg c6] at H
      exact absurd H (by simp)
    ·rw [if_neg c5] at H
     exact absurd H (by simp)
   ·rw [if_neg c4] at H
    have c4b0 : decide (x10_1 < (l0.length : Int)) = false := decide_eq_false c4
    clear c4
    obtain rfl := Option.some.inj H
    go_wp2
    go_ret
    exact ⟨_, by first | rfl | (simp [errW_none, errW_some] <;> rfl) | (simp [*, errW_none, errW_some] <;> rfl), by (with_reducible repeat (first | apply Kd.R_alloc | apply Kd.R_drewN | apply Kd.R_drew)); exact HO_5.out, hU HB.out⟩

/-! ### repeats_moved: function 77 -/
def repeats_moved.l0 : Nat → Int → List (S29) → List (S29) → Int → Int → Option ((List (S29)))
 | 0, _, _, _, _, _ => none
 | k + 1, x1, x5, x8, x9, x10 => if x10 < x9 then (if 0 ≤ x10 then (if x10 < (x8.length : Int) then (if x5.length < 2513169434916 then (repeats_moved.l0 k x1 (x5 ++ [(⟨(rd_T29 x8 x10).f0, (rd_T29 x8 x10).f1, wrap64 (((rd_T29 x8 x10).f2) + x1), (rd_T29 x8 x10).f3, (rd_T29 x8 x10).f4, (rd_T29 x8 x10).f5, (rd_T29 x8 x10).f6⟩ : S29)]) x8 x9 (wrap64 (x10 + 1))) else (none)) else (none)) else (none)) else (some x5)
def repeats_moved.f (k : Nat) (l0 : List (S29)) (a1 : Int) : Option ((List (S29))) := repeats_moved.l0 k a1 ([] : List (S29)) l0 (l0.length : Int) 0
theorem repeats_moved.mono_l : ∀ k, (∀ y0 y1 y2 y3 y4, LeO (repeats_moved.l0 k y0 y1 y2 y3 y4) (repeats_moved.l0 (k + 1) y0 y1 y2 y3 y4))
 | 0 => fun _ _ _ _ _ r h => by simp [repeats_moved.l0] at h
 | k + 1 => by
  have ih0 := repeats_moved.mono_l k
  ·intro y0 y1 y2 y3 y4
   unfold repeats_moved.l0
   repeat' first
   | (with_reducible exact ih0 _ _ _ _ _)
   | (with_reducible exact LeO.refl _)
   | (with_reducible exact LeO.none _)
   | (with_reducible refine LeO.ite ?_ ?_)
   | (with_reducible refine LeO.bind ?_ (fun _ => ?_))
   | exact ih0 _ _ _ _ _
   | exact LeO.none _
   | refine LeO.ite ?_ ?_
   | refine LeO.bind ?_ (fun _ => ?_)
theorem repeats_moved.mono : ∀ a0 a1 k, LeO (repeats_moved.f k a0 a1) (repeats_moved.f (k + 1) a0 a1) := by
 intro a0 a1 k
 have ih0 := repeats_moved.mono_l k
 unfold repeats_moved.f
 repeat' first
   | (with_reducible exact ih0 _ _ _ _ _)
   | (with_reducible exact LeO.refl _)
   | (with_reducible exact LeO.none _)
   | (with_reducible refine LeO.ite ?_ ?_)
   | (with_reducible refine LeO.bind ?_ (fun _ => ?_))
   | exact ih0 _ _ _ _ _
   | exact LeO.none _
   | refine LeO.ite ?_ ?_
   | refine LeO.bind ?_ (fun _ => ?_)
set_option maxHeartbeats 8000000 in
set_option maxRecDepth 100000 in
theorem repeats_moved.calls (k : Nat) (A0 : Option Addr) (c0 : Nat) (l0 : List (S29)) (a1 : Int) (r : List (S29)) (w : World) (hr0 : Kd.C k29 w A0 l0.length l0) (hc0 : l0.length ≤ c0) (h : repeats_moved.f k l0 a1 = some r) :
  Calls Try.prog 77 #[.slice A0 l0.length c0, .int .i64 a1] w fun e w' => ∃ v0_ : Value, e = .returned (v0_) ∧ Kd.R k29 29 w' w.heap.size (fun _ => True) v0_ r ∧ Below w.heap.size w w' := by
 have hu29 := Try.underlying29
 have HR0 := Aside0.mk hr0
 have HC0 := Aside0.mk hc0
 clear hr0 hc0
 have HB := Aside0.mk (Below.refl w.heap.size w)
 have H : (repeats_moved.l0 k a1 ([] : List (S29)) l0 (l0.length : Int) 0) = some r := h
 clear h
 have H' := Aside0.mk H
 clear H
 go_enter Try.func77, Try.ntmps77
 go_wp2
 go_loopg [5, 10] k (fun kq v5 v10 w' => ∃ (x5_1 : List (S29)) (x10_1 : Int), v10 = .int .i64 x10_1 ∧ Aside0 (repeats_moved.l0 kq a1 x5_1 l0 (l0.length : Int) x10_1 = some r) ∧ Aside0 (kq ≤ k) ∧ Aside0 (Kd.R k29 29 w' w.heap.size (fun _ => True) v5 x5_1) ∧ Aside0 (Below w.heap.size w w'))
 case atStart => exact ⟨(([] : List (S29))), (0), (by first | rfl | (simp; done) | (simp [*]; done)), H', ⟨Nat.le_refl _⟩, ⟨by first | exact Kd.R_nil _ _ _ _ _ | exact Kd.N_nil _ _ _ _ _ | exact Kd.V_nil _ _ _ _ _ | exact Kd.Q_nil _ _ _ _ _ | exact Kd.S_nil _ _ _ _ _⟩, ⟨hU HB.out⟩⟩
 case round =>
  clear H'
  try clear p2
  obtain ⟨x5_1, x10_1, rfl, HA, HK1, HO_5, HB⟩ := hrel
  cases gk with
  | zero => exact absurd HA.out (by simp [repeats_moved.l0])
  | succ k1 =>
   have H := HA.out
   clear HA
   simp only [repeats_moved.l0] at H
   by_cases c3 : x10_1 < (l0.length : Int)
   ·rw [if_pos c3] at H
    have c3b0 : decide (x10_1 < (l0.length : Int)) = true := decide_eq_true c3
    clear c3
    by_cases c4 : 0 ≤ x10_1
    ·rw [if_pos c4] at H
     have c4b0 : decide (0 ≤ x10_1) = true := decide_eq_true c4
     clear c4
     by_cases c5 : x10_1 < (l0.length : Int)
     ·rw [if_pos c5] at H
      have c5b0 : decide (x10_1 < (l0.length : Int)) = true := decide_eq_true c5
      clear c5
      by_cases c6 : x5_1.length < 2513169434916
      ·rw [if_pos c6] at H
       have LMc6 := Aside0.mk c6
       clear c6
       obtain ⟨y523, hy523⟩ : ∃ y_ : List (S29), y_ = (x5_1 ++ [(⟨(rd_T29 l0 x10_1).f0, (rd_T29 l0 x10_1).f1, wrap64 (((rd_T29 l0 x10_1).f2) + a1), (rd_T29 l0 x10_1).f3, (rd_T29 l0 x10_1).f4, (rd_T29 l0 x10_1).f5, (rd_T29 l0 x10_1).f6⟩ : S29)]) := ⟨_, rfl⟩
       replace H : (repeats_moved.l0 k1 a1 y523 l0 (l0.length : Int) (wrap64 (x10_1 + 1))) = some r := by first | (rw [hy523]; with_reducible exact H) | (have H2_ := (Option.bind_some _ _).symm.trans H; rw [hy523]; with_reducible exact H2_) | (have H2_ := (Option.bind_some _ _).symm.trans H; with_reducible exact H2_) | with_reducible exact H | (rw [hy523]; exact H) | exact H
       have Ny523 := Aside0.mk hy523
       clear hy523
       have H' := Aside0.mk H
       clear H
       have p521 : 0 ≤ (x10_1 : Int) := of_decide_eq_true (by first | (with_reducible assumption) | assumption)
       have q521 : x10_1 < (l0.length : Int) := of_decide_eq_true (by first | (with_reducible assumption) | assumption)
       obtain ⟨ad521, e521, hx521_0, hx521_1, hx521_2, hx521_3, hx521_4, hx521_5, hx521_6⟩ := at_T29 HR0.out x10_1 p521 q521
       cases e521
       replace hx521_0 := hbC HB hx521_0
       replace hx521_1 := hbC HB hx521_1
       replace hx521_2 := hbC HB hx521_2
       replace hx521_3 := hbC HB hx521_3
       replace hx521_4 := hbC HB hx521_4
       replace hx521_5 := hbC HB hx521_5
       replace hx521_6 := hbC HB hx521_6
       replace p521 := eq_true p521
       replace q521 := eq_true q521
       go_upto_region 6 with (first | ((with_reducible refine gate_dst (N := 7) rfl ?_); refine box_event ?hg (N := 7) ?hd (cs := #[.int .i64 0, .int .i64 0, .int .i64 0, .int .i64 0, .int .i64 0, .int .i64 0, .int .i64 0]) (t := 29) ?hr ?_; (case hd => rfl); (case hg => rfl); (case hr => first | (go_simp; done) | (go_simp; rfl)); intro gb522 hg w7 hbox hb; have n0_ := Aside0.mk (Kd.R_below (Kd.R_elderB (Kd.rU HO_5.out) gb522 (Nat.le_of_eq hg.symm)) hb); have n1_ := Aside0.mk (below_step (hU HB.out) hb); have n2_ := Aside0.mk (hbox); have n3_ := Aside0.mk ((by rw [hg]; exact (below_size (hU HB.out)) : w.heap.size ≤ gb522)); have n4_ := Aside0.mk ((by rw [hg]; exact (below_size (hU HB.out)) : w.heap.size ≤ gb522)); clear HO_5; clear HB; have HO_5 := n0_; have HB := n1_; have BK522 := n2_; have GW522 := n3_; have GE522 := n4_; clear n0_ n1_ n2_ n3_ n4_; clear hb hbox hg; have hcz8_0 := blk_cell BK522.out; have hfz8_0 := blk_frozen BK522.out))
       refine name_world (fun WX hWX => ?_)
       have HWX := Aside0.mk hWX
       clear hWX
       have hBX : WX.heap[gb522]? = some (.cells #[.int .i64 ((rd_T29 l0 x10_1).f0), .int .i64 ((rd_T29 l0 x10_1).f1), .int .i64 (wrap64 (((rd_T29 l0 x10_1).f2) + a1)), .int .i64 ((rd_T29 l0 x10_1).f3), .int .i64 ((rd_T29 l0 x10_1).f4), .int .i64 ((rd_T29 l0 x10_1).f5), .int .i64 ((rd_T29 l0 x10_1).f6)] 29 (0, 0)) := by rw [HWX.out]; apply blk_put; (iterate 7 (apply blk_set)); exact BK522.out; simp only [List.setIfInBounds_toArray, List.set_cons_zero, List.set_cons_succ]
       have hcX := blk_cell hBX
       have hfX := blk_frozen hBX
       clear hBX
       go_wp2_with (first | ((with_reducible refine gate_builtin (b := .append) (xs := #[.tmp 19, .tmp 21]) rfl ?_); at_builtin; have hw_ := HWX.out; subst hw_; refine Kd.R_append k29 (w0 := w) w.heap.size rfl (.tmp 19) (.tmp 21) 22 29 (.agg #[(.int .i64 0), (.int .i64 0), (.int .i64 0), (.int .i64 0), (.int .i64 0), (.int .i64 0), (.int .i64 0)]) 56 rfl Try.underlying22 info29 rfl (by decide) (by omega) u5 x5_1 (⟨(rd_T29 l0 x10_1).f0, (rd_T29 l0 x10_1).f1, wrap64 (((rd_T29 l0 x10_1).f2) + a1), (rd_T29 l0 x10_1).f3, (rd_T29 l0 x10_1).f4, (rd_T29 l0 x10_1).f5, (rd_T29 l0 x10_1).f6⟩ : S29) [.int .i64 ((rd_T29 l0 x10_1).f0), .int .i64 ((rd_T29 l0 x10_1).f1), .int .i64 (wrap64 (((rd_T29 l0 x10_1).f2) + a1)), .int .i64 ((rd_T29 l0 x10_1).f3), .int .i64 ((rd_T29 l0 x10_1).f4), .int .i64 ((rd_T29 l0 x10_1).f5), .int .i64 ((rd_T29 l0 x10_1).f6)] (fun k_ => k_ ≠ gb522) (fun _ => False) rfl (by first | (go_simp; done) | (go_simp; rfl)) ?aP (fun _ hk => hk.elim) ?aF ?aO ?aB ?aS ?aL ?_; (case aP => exact k29_mkM _ _ _ (⟨(rd_T29 l0 x10_1).f0, (rd_T29 l0 x10_1).f1, wrap64 (((rd_T29 l0 x10_1).f2) + a1), (rd_T29 l0 x10_1).f3, (rd_T29 l0 x10_1).f4, (rd_T29 l0 x10_1).f5, (rd_T29 l0 x10_1).f6⟩ : S29)); (case aB => exact (hU HB.out)); (case aF => exact (fun k_ hk => Kd.freshB (g := gb522) (o := .cells #[.int .i64 ((rd_T29 l0 x10_1).f0), .int .i64 ((rd_T29 l0 x10_1).f1), .int .i64 (wrap64 (((rd_T29 l0 x10_1).f2) + a1)), .int .i64 ((rd_T29 l0 x10_1).f3), .int .i64 ((rd_T29 l0 x10_1).f4), .int .i64 ((rd_T29 l0 x10_1).f5), .int .i64 ((rd_T29 l0 x10_1).f6)] 29 (0, 0)) (by (with_reducible repeat (first | refine blk_drewN ?_ _ | refine blk_drew ?_ | refine blk_alloc ?_ _)); apply blk_put; (iterate 7 ((with_reducible repeat (first | refine blk_drewN ?_ _ | refine blk_drew ?_ | refine blk_alloc ?_ _)); apply blk_set)); (with_reducible repeat (first | refine blk_drewN ?_ _ | refine blk_drew ?_ | refine blk_alloc ?_ _)); exact BK522.out; simp only [List.setIfInBounds_toArray, List.set_cons_zero, List.set_cons_succ]) k_ hk)); (case aO => exact (by (with_reducible repeat (first | apply Kd.R_alloc | apply Kd.R_drewN | apply Kd.R_drew)); exact Kd.R_mono (Kd.R_far (p := ⟨gb522, 2, none⟩) (Kd.R_far (p := ⟨gb522, 6, none⟩) (Kd.R_far (p := ⟨gb522, 5, none⟩) (Kd.R_far (p := ⟨gb522, 4, none⟩) (Kd.R_far (p := ⟨gb522, 3, none⟩) (Kd.R_far (p := ⟨gb522, 2, none⟩) (Kd.R_far (p := ⟨gb522, 1, none⟩) (Kd.R_far (p := ⟨gb522, 0, none⟩) (Kd.R_mono HO_5.out (fun k_ hk => (⟨hk, hk.2⟩ : _ ∧ k_ ≠ gb522))) (fun _ hk => hk.2) (.int .i64 ((rd_T29 l0 x10_1).f0))) (fun _ hk => hk.2) (.int .i64 ((rd_T29 l0 x10_1).f1))) (fun _ hk => hk.2) (.int .i64 ((rd_T29 l0 x10_1).f2))) (fun _ hk => hk.2) (.int .i64 ((rd_T29 l0 x10_1).f3))) (fun _ hk => hk.2) (.int .i64 ((rd_T29 l0 x10_1).f4))) (fun _ hk => hk.2) (.int .i64 ((rd_T29 l0 x10_1).f5))) (fun _ hk => hk.2) (.int .i64 ((rd_T29 l0 x10_1).f6))) (fun _ hk => hk.2) (.int .i64 (wrap64 (((rd_T29 l0 x10_1).f2) + a1)))) (fun _ hk => hk.1.2))); (case aS => exact (below_size (hU HB.out))); (case aL => have := LMc6.out; omega); intro v524 w9 ho hb hg hat; rw [← Ny523.out] at ho; have n0_ := Aside0.mk (blk_grown (g := gb522) (o := .cells #[.int .i64 ((rd_T29 l0 x10_1).f0), .int .i64 ((rd_T29 l0 x10_1).f1), .int .i64 (wrap64 (((rd_T29 l0 x10_1).f2) + a1)), .int .i64 ((rd_T29 l0 x10_1).f3), .int .i64 ((rd_T29 l0 x10_1).f4), .int .i64 ((rd_T29 l0 x10_1).f5), .int .i64 ((rd_T29 l0 x10_1).f6)] 29 (0, 0)) (by (with_reducible repeat (first | refine blk_drewN ?_ _ | refine blk_drew ?_ | refine blk_alloc ?_ _)); apply blk_put; (iterate 7 ((with_reducible repeat (first | refine blk_drewN ?_ _ | refine blk_drew ?_ | refine blk_alloc ?_ _)); apply blk_set)); (with_reducible repeat (first | refine blk_drewN ?_ _ | refine blk_drew ?_ | refine blk_alloc ?_ _)); exact BK522.out; simp only [List.setIfInBounds_toArray, List.set_cons_zero, List.set_cons_succ]) hg (Kd.R_away HO_5.out (fun _ hk => hk.2))); have n1_ := Aside0.mk (hb); have n2_ := Aside0.mk (ho); clear BK522; clear HB; clear HO_5; have BK522 := n0_; have HB := n1_; have HO525 := n2_; clear n0_ n1_ n2_; clear ho hb hg hat))
       go_roundg k1
       case measure => have := HK1.out; omega
       case rel => exact ⟨(y523), (wrap64 (x10_1 + 1)), (by first | rfl | (simp; done) | (simp [*]; done)), H', ⟨by have := HK1.out; omega⟩, ⟨by (with_reducible repeat (first | apply Kd.R_alloc | apply Kd.R_drewN | apply Kd.R_drew)); exact Kd.R_mono HO525.out (fun _ hk => trivial)⟩, ⟨hU HB.out⟩⟩
      ·rw [if_neg c6] at H
       exact absurd H (by simp)
     ·rw [if_neg c5] at H
      exact absurd H (by simp)
    ·rw [if_neg c4] at H
     exact absurd H (by simp)
   ·rw [if_neg c3] at H
    have c3b0 : decide (x10_1 < (l0.length : Int)) = false := decide_eq_false c3
    clear c3
    obtain rfl := Option.some.inj H
    go_wp2
    go_ret
    exact ⟨_, by first | rfl | (simp [errW_none, errW_some] <;> rfl) | (simp [*, errW_none, errW_some] <;> rfl), by (with_reducible repeat (first | apply Kd.R_alloc | apply Kd.R_drewN | apply Kd.R_drew)); exact HO_5.out, hU HB.out⟩

end Go.Proofs.Ytdilndbanhianaa.P

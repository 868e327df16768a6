-- Written by a program of this session (myprint.py over the kit's print): the Go functions of the seat as Lean functions, and what their calls do.
import Derived.Test.YtdilndbanhianaaVReg
import Derived.Test.YtdilndbanhianaaVNw
import Derived.Test.YtdilndbanhianaaVMA
namespace Go.Proofs.Ytdilndbanhianaa.P
open Go.RowKit Go.Proofs.YtdilndbanhianaaW.PrintWords Go.Proofs.YtdilndbanhianaaW.PrintLast Go.Proofs.YtdilndbanhianaaW.PrintMore
attribute [local go_sem] max2_int min2_int max_two min_two max_three min_three max_four min_four   -- for this text's walks alone
set_option linter.unusedVariables false
set_option linter.unusedSimpArgs false

/-! ### dancestudiolaw26_begins: function 47 -/
def dancestudiolaw26_begins.l0 : Nat → List (S29) → Int → Int → Int → Option (Int × Int × Int × Int × Int × Int × Int × Bool)
 | 0, _, _, _, _ => none
 | k + 1, x0, x1, x2, x8 => if x8 < (x0.length : Int) then (if 0 ≤ x8 then (if ((rd_T29 x0 x8).f1) = x1 then (if ((rd_T29 x0 x8).f2) = x2 then (some ((rd_T29 x0 x8).f0, (rd_T29 x0 x8).f1, 0, (rd_T29 x0 x8).f3, (rd_T29 x0 x8).f4, (rd_T29 x0 x8).f5, (rd_T29 x0 x8).f6, true)) else (dancestudiolaw26_begins.l0 k x0 x1 x2 (wrap64 (x8 + 1)))) else (dancestudiolaw26_begins.l0 k x0 x1 x2 (wrap64 (x8 + 1)))) else (none)) else (some (0, 0, 0, 0, 0, 0, 0, false))
def dancestudiolaw26_begins.f (k : Nat) (l0 : List (S29)) (a1 : Int) (a2 : Int) : Option (Int × Int × Int × Int × Int × Int × Int × Bool) := dancestudiolaw26_begins.l0 k l0 a1 a2 0
theorem dancestudiolaw26_begins.mono_l : ∀ k, (∀ y0 y1 y2 y3, LeO (dancestudiolaw26_begins.l0 k y0 y1 y2 y3) (dancestudiolaw26_begins.l0 (k + 1) y0 y1 y2 y3))
 | 0 => fun _ _ _ _ r h => by simp [dancestudiolaw26_begins.l0] at h
 | k + 1 => by
  have ih0 := dancestudiolaw26_begins.mono_l k
  ·intro y0 y1 y2 y3
   unfold dancestudiolaw26_begins.l0
   repeat' first
   | (with_reducible exact ih0 _ _ _ _)
   | (with_reducible exact LeO.refl _)
   | (with_reducible exact LeO.none _)
   | (with_reducible refine LeO.ite ?_ ?_)
   | (with_reducible refine LeO.bind ?_ (fun _ => ?_))
   | exact ih0 _ _ _ _
   | exact LeO.none _
   | refine LeO.ite ?_ ?_
   | refine LeO.bind ?_ (fun _ => ?_)
theorem dancestudiolaw26_begins.mono : ∀ a0 a1 a2 k, LeO (dancestudiolaw26_begins.f k a0 a1 a2) (dancestudiolaw26_begins.f (k + 1) a0 a1 a2) := by
 intro a0 a1 a2 k
 have ih0 := dancestudiolaw26_begins.mono_l k
 unfold dancestudiolaw26_begins.f
 repeat' first
   | (with_reducible exact ih0 _ _ _ _)
   | (with_reducible exact LeO.refl _)
   | (with_reducible exact LeO.none _)
   | (with_reducible refine LeO.ite ?_ ?_)
   | (with_reducible refine LeO.bind ?_ (fun _ => ?_))
   | exact ih0 _ _ _ _
   | exact LeO.none _
   | refine LeO.ite ?_ ?_
   | refine LeO.bind ?_ (fun _ => ?_)
set_option maxHeartbeats 8000000 in
set_option maxRecDepth 100000 in
theorem dancestudiolaw26_begins.calls (k : Nat) (A0 : Option Addr) (c0 : Nat) (l0 : List (S29)) (a1 : Int) (a2 : Int) (r1 : Int) (r2 : Int) (r3 : Int) (r4 : Int) (r5 : Int) (r6 : Int) (r7 : Int) (r8 : Bool) (w : World) (hr0 : Kd.C k29 w A0 l0.length l0) (hc0 : l0.length ≤ c0) (h : dancestudiolaw26_begins.f k l0 a1 a2 = some (r1, r2, r3, r4, r5, r6, r7, r8)) :
  Calls Try.prog 47 #[.slice A0 l0.length c0, .int .i64 a1, .int .i64 a2] w fun e w' => e = .returned (.tuple #[.agg #[.int .i64 r1, .int .i64 r2, .int .i64 r3, .int .i64 r4, .int .i64 r5, .int .i64 r6, .int .i64 r7], .bool r8]) ∧ Below w.heap.size w w' := by
 have hu29 := Try.underlying29
 have HR0 := Aside0.mk hr0
 have HC0 := Aside0.mk hc0
 clear hr0 hc0
 have HB := Aside0.mk (Below.refl w.heap.size w)
 have H : (dancestudiolaw26_begins.l0 k l0 a1 a2 0) = some (r1, r2, r3, r4, r5, r6, r7, r8) := h
 clear h
 have H' := Aside0.mk H
 clear H
 go_enter Try.func47, Try.ntmps47
 go_wp2_with (first | ((with_reducible refine gate_dst (N := 6) rfl ?_); refine box_event ?hg (N := 6) ?hd (cs := #[.int .i64 0, .int .i64 0, .int .i64 0, .int .i64 0, .int .i64 0, .int .i64 0, .int .i64 0]) (t := 29) ?hr ?_; (case hd => rfl); (case hg => rfl); (case hr => first | (go_simp; done) | (go_simp; rfl)); intro gb861 hg w4 hbox hb; have n0_ := Aside0.mk (below_step (hU HB.out) hb); have n1_ := Aside0.mk (hbox); have n2_ := Aside0.mk ((by rw [hg]; exact (below_size (hU HB.out)) : w.heap.size ≤ gb861)); have n3_ := Aside0.mk ((by rw [hg]; exact (below_size (hU HB.out)) : w.heap.size ≤ gb861)); clear HB; have HB := n0_; have BK861 := n1_; have GW861 := n2_; have GE861 := n3_; clear n0_ n1_ n2_ n3_; clear hb hbox hg))
 go_loopg [8] k (fun kq v8 w' => ∃ (x8_1 : Int) (x862000_1 : Int) (x862001_1 : Int) (x862002_1 : Int) (x862003_1 : Int) (x862004_1 : Int) (x862005_1 : Int) (x862006_1 : Int), v8 = .int .i64 x8_1 ∧ Aside0 (dancestudiolaw26_begins.l0 kq l0 a1 a2 x8_1 = some (r1, r2, r3, r4, r5, r6, r7, r8)) ∧ Aside0 (kq ≤ k) ∧ Aside0 (w'.heap[gb861]? = some (.cells #[.int .i64 x862000_1, .int .i64 x862001_1, .int .i64 x862002_1, .int .i64 x862003_1, .int .i64 x862004_1, .int .i64 x862005_1, .int .i64 x862006_1] 29 (0, 0))) ∧ Aside0 (Below w.heap.size w w'))
 case atStart => exact ⟨(0), (0), (0), (0), (0), (0), (0), (0), (by first | rfl | (simp; done) | (simp [*]; done)), H', ⟨Nat.le_refl _⟩, ⟨by (with_reducible repeat (first | refine blk_drewN ?_ _ | refine blk_drew ?_ | refine blk_alloc ?_ _)); exact BK861.out⟩, ⟨hU HB.out⟩⟩
 case round =>
  clear H'
  try clear p2
  try clear c4
  obtain ⟨x8_1, x862000_1, x862001_1, x862002_1, x862003_1, x862004_1, x862005_1, x862006_1, rfl, HA, HK1, BK861, HB⟩ := hrel
  cases gk with
  | zero => exact absurd HA.out (by simp [dancestudiolaw26_begins.l0])
  | succ k1 =>
   have H := HA.out
   clear HA
   simp only [dancestudiolaw26_begins.l0] at H
   by_cases c5 : x8_1 < (l0.length : Int)
   ·rw [if_pos c5] at H
    have c5b0 : decide (x8_1 < (l0.length : Int)) = true := decide_eq_true c5
    clear c5
    by_cases c6 : 0 ≤ x8_1
    ·rw [if_pos c6] at H
     have c6b0 : decide (0 ≤ x8_1) = true := decide_eq_true c6
     clear c6
     by_cases c7 : ((rd_T29 l0 x8_1).f1) = a1
     ·rw [if_pos c7] at H
      have c7b0 : (((rd_T29 l0 x8_1).f1) == a1) = true := beq_iff_eq.mpr c7
      have c7b1 : (((rd_T29 l0 x8_1).f1) != a1) = false := bne_eq_false_iff_eq.mpr c7
      clear c7
      by_cases c8 : ((rd_T29 l0 x8_1).f2) = a2
      ·rw [if_pos c8] at H
       have c8b0 : (((rd_T29 l0 x8_1).f2) == a2) = true := beq_iff_eq.mpr c8
       have c8b1 : (((rd_T29 l0 x8_1).f2) != a2) = false := bne_eq_false_iff_eq.mpr c8
       clear c8
       simp only [Option.some.injEq, Prod.mk.injEq] at H
       obtain ⟨rfl, rfl, rfl, rfl, rfl, rfl, rfl, rfl⟩ := H
       have p862 : 0 ≤ (x8_1 : Int) := of_decide_eq_true (by first | (with_reducible assumption) | assumption)
       have q862 : x8_1 < (l0.length : Int) := of_decide_eq_true (by first | (with_reducible assumption) | assumption)
       obtain ⟨ad862, e862, hx862_0, hx862_1, hx862_2, hx862_3, hx862_4, hx862_5, hx862_6⟩ := at_T29 HR0.out x8_1 p862 q862
       cases e862
       replace hx862_0 := hbC HB hx862_0
       replace hx862_1 := hbC HB hx862_1
       replace hx862_2 := hbC HB hx862_2
       replace hx862_3 := hbC HB hx862_3
       replace hx862_4 := hbC HB hx862_4
       replace hx862_5 := hbC HB hx862_5
       replace hx862_6 := hbC HB hx862_6
       replace p862 := eq_true p862
       replace q862 := eq_true q862
       have p863 : 0 ≤ (x8_1 : Int) := of_decide_eq_true (by first | (with_reducible assumption) | assumption)
       have q863 : x8_1 < (l0.length : Int) := of_decide_eq_true (by first | (with_reducible assumption) | assumption)
       obtain ⟨ad863, e863, hx863_0, hx863_1, hx863_2, hx863_3, hx863_4, hx863_5, hx863_6⟩ := at_T29 HR0.out x8_1 p863 q863
       obtain rfl : ad862 = ad863 := (by injection e863)
       replace hx863_0 := hbC HB hx863_0
       replace hx863_1 := hbC HB hx863_1
       replace hx863_2 := hbC HB hx863_2
       replace hx863_3 := hbC HB hx863_3
       replace hx863_4 := hbC HB hx863_4
       replace hx863_5 := hbC HB hx863_5
       replace hx863_6 := hbC HB hx863_6
       replace p863 := eq_true p863
       replace q863 := eq_true q863
       have p864 : 0 ≤ (x8_1 : Int) := of_decide_eq_true (by first | (with_reducible assumption) | assumption)
       have q864 : x8_1 < (l0.length : Int) := of_decide_eq_true (by first | (with_reducible assumption) | assumption)
       obtain ⟨ad864, e864, hx864_0, hx864_1, hx864_2, hx864_3, hx864_4, hx864_5, hx864_6⟩ := at_T29 HR0.out x8_1 p864 q864
       obtain rfl : ad862 = ad864 := (by injection e864)
       replace hx864_0 := hbC HB hx864_0
       replace hx864_1 := hbC HB hx864_1
       replace hx864_2 := hbC HB hx864_2
       replace hx864_3 := hbC HB hx864_3
       replace hx864_4 := hbC HB hx864_4
       replace hx864_5 := hbC HB hx864_5
       replace hx864_6 := hbC HB hx864_6
       replace p864 := eq_true p864
       replace q864 := eq_true q864
       go_upto_region 7 with (first | ((with_reducible refine gate_dst (N := 9) rfl ?_); refine box_event ?hg (N := 9) ?hd (cs := #[.int .i64 0, .int .i64 0, .int .i64 0, .int .i64 0, .int .i64 0, .int .i64 0, .int .i64 0]) (t := 29) ?hr ?_; (case hd => rfl); (case hg => rfl); (case hr => first | (go_simp; done) | (go_simp; rfl)); intro gb865 hg w9 hbox hb; have n0_ := Aside0.mk (blk_below (bU BK861.out) hb); have n1_ := Aside0.mk (below_step (hU HB.out) hb); have n2_ := Aside0.mk (hbox); have n3_ := Aside0.mk ((by rw [hg]; exact (below_size (hU HB.out)) : w.heap.size ≤ gb865)); have n4_ := Aside0.mk ((by rw [hg]; exact (below_size (hU HB.out)) : w.heap.size ≤ gb865)); have n5_ := Aside0.mk ((by rw [hg]; exact Nat.ne_of_lt (blk_lt (bU BK861.out)) : gb861 ≠ gb865)); have n6_ := Aside0.mk ((by rw [hg]; exact Nat.ne_of_gt (blk_lt (bU BK861.out)) : gb865 ≠ gb861)); clear BK861; clear HB; have BK861 := n0_; have HB := n1_; have BK865 := n2_; have GW865 := n3_; have GE865 := n4_; have NB861_865 := n5_; have NB865_861 := n6_; clear n0_ n1_ n2_ n3_ n4_ n5_ n6_; clear hb hbox hg; have hnb10 := NB865_861.out; have hnc10 := NB861_865.out; have hcz11_0 := blk_cell BK865.out; have hfz11_0 := blk_frozen BK865.out; have hcz12_0 := blk_cell BK861.out; have hfz12_0 := blk_frozen BK861.out))
       refine name_world (fun WX hWX => ?_)
       have HWX := Aside0.mk hWX
       clear hWX
       have hBX : WX.heap[gb865]? = some (.cells #[.int .i64 ((rd_T29 l0 x8_1).f0), .int .i64 ((rd_T29 l0 x8_1).f1), .int .i64 0, .int .i64 ((rd_T29 l0 x8_1).f3), .int .i64 ((rd_T29 l0 x8_1).f4), .int .i64 ((rd_T29 l0 x8_1).f5), .int .i64 ((rd_T29 l0 x8_1).f6)] 29 (0, 0)) := by rw [HWX.out]; apply blk_put; (iterate 7 (apply blk_set)); exact BK865.out; simp only [List.setIfInBounds_toArray, List.set_cons_zero, List.set_cons_succ]
       have hcX := blk_cell hBX
       have hfX := blk_frozen hBX
       clear hBX
       have hEQ : WX.heap[gb861]? = w9.heap[gb861]? := by rw [HWX.out]; (iterate 8 (refine (Below.heap_setCell _ ⟨_, _, none⟩ _ _ NB861_865.out).trans ?_)); rfl
       have hBY := BK861.out
       rw [← hEQ] at hBY
       have hcY := blk_cell hBY
       have hfY := blk_frozen hBY
       clear hBY hEQ
       have hnY := NB865_861.out
       have hnZ := NB861_865.out
       go_wp2
       have hw_ := HWX.out; subst hw_
       refine bodyPost_ret (results_ct rfl _ _ gb861 29 #[.int .i64 ((rd_T29 l0 x8_1).f0), .int .i64 ((rd_T29 l0 x8_1).f1), .int .i64 0, .int .i64 ((rd_T29 l0 x8_1).f3), .int .i64 ((rd_T29 l0 x8_1).f4), .int .i64 ((rd_T29 l0 x8_1).f5), .int .i64 ((rd_T29 l0 x8_1).f6)] (0, 0) _ rfl (by (with_reducible repeat (first | refine blk_drewN ?_ _ | refine blk_drew ?_ | refine blk_alloc ?_ _)); apply blk_put; (iterate 6 ((with_reducible repeat (first | refine blk_drewN ?_ _ | refine blk_drew ?_ | refine blk_alloc ?_ _)); apply blk_set)); (iterate 8 ((with_reducible repeat (first | refine blk_drewN ?_ _ | refine blk_drew ?_ | refine blk_alloc ?_ _)); refine (Below.heap_setCell _ ⟨_, _, none⟩ _ _ NB861_865.out).trans ?_)); (with_reducible repeat (first | refine blk_drewN ?_ _ | refine blk_drew ?_ | refine blk_alloc ?_ _)); exact BK861.out; simp only [List.setIfInBounds_toArray, List.set_cons_zero, List.set_cons_succ]) Try.underlying29 rfl (by kernel_rfl)) rfl ?_
       exact ⟨by first | rfl | (simp [errW_none, errW_some] <;> rfl) | (simp [*, errW_none, errW_some] <;> rfl), hU HB.out⟩
      ·rw [if_neg c8] at H
       have c8b0 : (((rd_T29 l0 x8_1).f2) == a2) = false := beq_eq_false_iff_ne.mpr c8
       have c8b1 : (((rd_T29 l0 x8_1).f2) != a2) = true := bne_iff_ne.mpr c8
       have H' := Aside0.mk H
       clear H
       have p862 : 0 ≤ (x8_1 : Int) := of_decide_eq_true (by first | (with_reducible assumption) | assumption)
       have q862 : x8_1 < (l0.length : Int) := of_decide_eq_true (by first | (with_reducible assumption) | assumption)
       obtain ⟨ad862, e862, hx862_0, hx862_1, hx862_2, hx862_3, hx862_4, hx862_5, hx862_6⟩ := at_T29 HR0.out x8_1 p862 q862
       cases e862
       replace hx862_0 := hbC HB hx862_0
       replace hx862_1 := hbC HB hx862_1
       replace hx862_2 := hbC HB hx862_2
       replace hx862_3 := hbC HB hx862_3
       replace hx862_4 := hbC HB hx862_4
       replace hx862_5 := hbC HB hx862_5
       replace hx862_6 := hbC HB hx862_6
       replace p862 := eq_true p862
       replace q862 := eq_true q862
       have p863 : 0 ≤ (x8_1 : Int) := of_decide_eq_true (by first | (with_reducible assumption) | assumption)
       have q863 : x8_1 < (l0.length : Int) := of_decide_eq_true (by first | (with_reducible assumption) | assumption)
       obtain ⟨ad863, e863, hx863_0, hx863_1, hx863_2, hx863_3, hx863_4, hx863_5, hx863_6⟩ := at_T29 HR0.out x8_1 p863 q863
       obtain rfl : ad862 = ad863 := (by injection e863)
       replace hx863_0 := hbC HB hx863_0
       replace hx863_1 := hbC HB hx863_1
       replace hx863_2 := hbC HB hx863_2
       replace hx863_3 := hbC HB hx863_3
       replace hx863_4 := hbC HB hx863_4
       replace hx863_5 := hbC HB hx863_5
       replace hx863_6 := hbC HB hx863_6
       replace p863 := eq_true p863
       replace q863 := eq_true q863
       go_wp2
       go_roundg k1
       case measure => have := HK1.out; omega
       case rel => exact ⟨(wrap64 (x8_1 + 1)), (x862000_1), (x862001_1), (x862002_1), (x862003_1), (x862004_1), (x862005_1), (x862006_1), (by first | rfl | (simp; done) | (simp [*]; done)), H', ⟨by have := HK1.out; omega⟩, ⟨by (with_reducible repeat (first | refine blk_drewN ?_ _ | refine blk_drew ?_ | refine blk_alloc ?_ _)); exact BK861.out⟩, ⟨hU HB.out⟩⟩
     ·rw [if_neg c7] at H
      have c7b0 : (((rd_T29 l0 x8_1).f1) == a1) = false := beq_eq_false_iff_ne.mpr c7
      have c7b1 : (((rd_T29 l0 x8_1).f1) != a1) = true := bne_iff_ne.mpr c7
      have H' := Aside0.mk H
      clear H
      have p862 : 0 ≤ (x8_1 : Int) := of_decide_eq_true (by first | (with_reducible assumption) | assumption)
      have q862 : x8_1 < (l0.length : Int) := of_decide_eq_true (by first | (with_reducible assumption) | assumption)
      obtain ⟨ad862, e862, hx862_0, hx862_1, hx862_2, hx862_3, hx862_4, hx862_5, hx862_6⟩ := at_T29 HR0.out x8_1 p862 q862
      cases e862
      replace hx862_0 := hbC HB hx862_0
      replace hx862_1 := hbC HB hx862_1
      replace hx862_2 := hbC HB hx862_2
      replace hx862_3 := hbC HB hx862_3
      replace hx862_4 := hbC HB hx862_4
      replace hx862_5 := hbC HB hx862_5
      replace hx862_6 := hbC HB hx862_6
      replace p862 := eq_true p862
      replace q862 := eq_true q862
      go_wp2
      go_roundg k1
      case measure => have := HK1.out; omega
      case rel => exact ⟨(wrap64 (x8_1 + 1)), (x862000_1), (x862001_1), (x862002_1), (x862003_1), (x862004_1), (x862005_1), (x862006_1), (by first | rfl | (simp; done) | (simp [*]; done)), H', ⟨by have := HK1.out; omega⟩, ⟨by (with_reducible repeat (first | refine blk_drewN ?_ _ | refine blk_drew ?_ | refine blk_alloc ?_ _)); exact BK861.out⟩, ⟨hU HB.out⟩⟩
    ·rw [if_neg c6] at H
     exact absurd H (by simp)
   ·rw [if_neg c5] at H
    have c5b0 : decide (x8_1 < (l0.length : Int)) = false := decide_eq_false c5
    clear c5
    simp only [Option.some.injEq, Prod.mk.injEq] at H
    obtain ⟨rfl, rfl, rfl, rfl, rfl, rfl, rfl, rfl⟩ := H
    have hcz13_0 := blk_cell BK861.out
    have hfz13_0 := blk_frozen BK861.out
    go_wp2
    refine bodyPost_ret (results_ct rfl _ _ gb861 29 #[.int .i64 0, .int .i64 0, .int .i64 0, .int .i64 0, .int .i64 0, .int .i64 0, .int .i64 0] (0, 0) _ rfl (by (with_reducible repeat (first | refine blk_drewN ?_ _ | refine blk_drew ?_ | refine blk_alloc ?_ _)); apply blk_put; (iterate 6 ((with_reducible repeat (first | refine blk_drewN ?_ _ | refine blk_drew ?_ | refine blk_alloc ?_ _)); apply blk_set)); (with_reducible repeat (first | refine blk_drewN ?_ _ | refine blk_drew ?_ | refine blk_alloc ?_ _)); exact BK861.out; simp only [List.setIfInBounds_toArray, List.set_cons_zero, List.set_cons_succ]) Try.underlying29 rfl (by kernel_rfl)) rfl ?_
    exact ⟨by first | rfl | (simp [errW_none, errW_some] <;> rfl) | (simp [*, errW_none, errW_some] <;> rfl), hU HB.out⟩

end Go.Proofs.Ytdilndbanhianaa.P

-- Written by a program of this session (myprint.py over the kit's print): the Go functions of the seat as Lean functions, and what their calls do.
import Derived.Test.YtdilndbanhianaaReg
import Derived.Test.YtdilndbanhianaaNw
import Derived.Test.YtdilndbanhianaaMA
import Derived.Test.YtdilndbanhianaaMB
import Derived.Test.YtdilndbanhianaaP27
namespace Go.Proofs.Ytdilndbanhianaa.P
open Go.RowKit Go.Proofs.YtdilndbanhianaaW.PrintWords Go.Proofs.YtdilndbanhianaaW.PrintLast Go.Proofs.YtdilndbanhianaaW.PrintMore
attribute [local go_sem] max2_int min2_int max_two min_two max_three min_three max_four min_four   -- for this text's walks alone
set_option linter.unusedVariables false
set_option linter.unusedSimpArgs false

/-! ### dancestudioref24_Cut: function 35 -/
mutual
def dancestudioref24_Cut.j0 : Nat → List (S29) → Bool → Int → Int → Option ((List (S29)) × Int)
 | 0, _, _, _, _ => none
 | k + 1, x0, x33, x392000, x392001 => if x33 = true then (some (([] : List (S29)), 1)) else (dancestudioref24_Cut.l0 k x0 ([] : List (S29)) 0 x392000 x392001)
def dancestudioref24_Cut.l0 : Nat → List (S29) → List (S29) → Int → Int → Int → Option ((List (S29)) × Int)
 | 0, _, _, _, _, _ => none
 | k + 1, x0, x9, x10, x392000, x392001 => if x10 < (x0.length : Int) then (if 0 ≤ x10 then ((dancestudioref24_across.f ((rd_T29 x0 x10).f0) ((rd_T29 x0 x10).f1) ((rd_T29 x0 x10).f2) ((rd_T29 x0 x10).f3) ((rd_T29 x0 x10).f4) ((rd_T29 x0 x10).f5) ((rd_T29 x0 x10).f6) x392000).bind fun t394 => (if t394 = true then (dancestudioref24_Cut.j2 k x0 x9 x10 true x392000 x392001) else ((dancestudioref24_across.f ((rd_T29 x0 x10).f0) ((rd_T29 x0 x10).f1) ((rd_T29 x0 x10).f2) ((rd_T29 x0 x10).f3) ((rd_T29 x0 x10).f4) ((rd_T29 x0 x10).f5) ((rd_T29 x0 x10).f6) x392001).bind fun t396 => (dancestudioref24_Cut.j2 k x0 x9 x10 t396 x392000 x392001)))) else (none)) else (some (x9, 0))
def dancestudioref24_Cut.j2 : Nat → List (S29) → List (S29) → Int → Bool → Int → Int → Option ((List (S29)) × Int)
 | 0, _, _, _, _, _, _ => none
 | k + 1, x0, x9, x10, x55, x392000, x392001 => if x55 = true then (some (([] : List (S29)), 17)) else (if 0 ≤ x10 then (if x10 < (x0.length : Int) then (if ((rd_T29 x0 x10).f2) ≥ x392000 then ((dancestudioref24_end.f ((rd_T29 x0 x10).f0) ((rd_T29 x0 x10).f1) ((rd_T29 x0 x10).f2) ((rd_T29 x0 x10).f3) ((rd_T29 x0 x10).f4) ((rd_T29 x0 x10).f5) ((rd_T29 x0 x10).f6)).bind fun t399 => (if t399 ≤ x392001 then (if x9.length < 2513169434916 then (dancestudioref24_Cut.l0 k x0 (x9 ++ [(⟨(rd_T29 x0 x10).f0, (rd_T29 x0 x10).f1, wrap64 (((rd_T29 x0 x10).f2) - x392000), (rd_T29 x0 x10).f3, (rd_T29 x0 x10).f4, (rd_T29 x0 x10).f5, (rd_T29 x0 x10).f6⟩ : S29)]) (wrap64 (x10 + 1)) x392000 x392001) else (none)) else (dancestudioref24_Cut.l0 k x0 x9 (wrap64 (x10 + 1)) x392000 x392001))) else (dancestudioref24_Cut.l0 k x0 x9 (wrap64 (x10 + 1)) x392000 x392001)) else (none)) else (none))
end
def dancestudioref24_Cut.f (k : Nat) (l0 : List (S29)) (a1 : Int) (a2_0 : Int) (a2_1 : Int) : Option ((List (S29)) × Int) := (dancestudioref24_Check.f k l0 a1).bind fun t392 => (if t392 = 0 then (if a2_0 < 0 then (dancestudioref24_Cut.j0 k l0 true a2_0 a2_1) else (if a2_0 ≥ a2_1 then (dancestudioref24_Cut.j0 k l0 true a2_0 a2_1) else (dancestudioref24_Cut.j0 k l0 (decide (a2_1 > a1)) a2_0 a2_1))) else (some (([] : List (S29)), t392)))
theorem dancestudioref24_Cut.mono_l : ∀ k, (∀ y0 y1 y2 y3, LeO (dancestudioref24_Cut.j0 k y0 y1 y2 y3) (dancestudioref24_Cut.j0 (k + 1) y0 y1 y2 y3)) ∧ (∀ y0 y1 y2 y3 y4, LeO (dancestudioref24_Cut.l0 k y0 y1 y2 y3 y4) (dancestudioref24_Cut.l0 (k + 1) y0 y1 y2 y3 y4)) ∧ (∀ y0 y1 y2 y3 y4 y5, LeO (dancestudioref24_Cut.j2 k y0 y1 y2 y3 y4 y5) (dancestudioref24_Cut.j2 (k + 1) y0 y1 y2 y3 y4 y5))
 | 0 => ⟨fun _ _ _ _ r h => by simp [dancestudioref24_Cut.j0] at h, fun _ _ _ _ _ r h => by simp [dancestudioref24_Cut.l0] at h, fun _ _ _ _ _ _ r h => by simp [dancestudioref24_Cut.j2] at h⟩
 | k + 1 => by
  obtain ⟨ih0, ih1, ih2⟩ := dancestudioref24_Cut.mono_l k
  refine ⟨?_, ?_, ?_⟩
  ·intro y0 y1 y2 y3
   unfold dancestudioref24_Cut.j0
   repeat' first
   | (with_reducible exact ih0 _ _ _ _)
   | (with_reducible exact ih1 _ _ _ _ _)
   | (with_reducible exact ih2 _ _ _ _ _ _)
   | (with_reducible exact dancestudioref24_Check.mono _ _ _)
   | (with_reducible exact LeO.refl _)
   | (with_reducible exact LeO.none _)
   | (with_reducible refine LeO.ite ?_ ?_)
   | (with_reducible refine LeO.bind ?_ (fun _ => ?_))
   | exact ih0 _ _ _ _
   | exact ih1 _ _ _ _ _
   | exact ih2 _ _ _ _ _ _
   | exact dancestudioref24_Check.mono _ _ _
   | exact LeO.none _
   | refine LeO.ite ?_ ?_
   | refine LeO.bind ?_ (fun _ => ?_)
  ·intro y0 y1 y2 y3 y4
   unfold dancestudioref24_Cut.l0
   repeat' first
   | (with_reducible exact ih0 _ _ _ _)
   | (with_reducible exact ih1 _ _ _ _ _)
   | (with_reducible exact ih2 _ _ _ _ _ _)
   | (with_reducible exact dancestudioref24_Check.mono _ _ _)
   | (with_reducible exact LeO.refl _)
   | (with_reducible exact LeO.none _)
   | (with_reducible refine LeO.ite ?_ ?_)
   | (with_reducible refine LeO.bind ?_ (fun _ => ?_))
   | exact ih0 _ _ _ _
   | exact ih1 _ _ _ _ _
   | exact ih2 _ _ _ _ _ _
   | exact dancestudioref24_Check.mono _ _ _
   | exact LeO.none _
   | refine LeO.ite ?_ ?_
   | refine LeO.bind ?_ (fun _ => ?_)
  ·intro y0 y1 y2 y3 y4 y5
   unfold dancestudioref24_Cut.j2
   repeat' first
   | (with_reducible exact ih0 _ _ _ _)
   | (with_reducible exact ih1 _ _ _ _ _)
   | (with_reducible exact ih2 _ _ _ _ _ _)
   | (with_reducible exact dancestudioref24_Check.mono _ _ _)
   | (with_reducible exact LeO.refl _)
   | (with_reducible exact LeO.none _)
   | (with_reducible refine LeO.ite ?_ ?_)
   | (with_reducible refine LeO.bind ?_ (fun _ => ?_))
   | exact ih0 _ _ _ _
   | exact ih1 _ _ _ _ _
   | exact ih2 _ _ _ _ _ _
   | exact dancestudioref24_Check.mono _ _ _
   | exact LeO.none _
   | refine LeO.ite ?_ ?_
   | refine LeO.bind ?_ (fun _ => ?_)
theorem dancestudioref24_Cut.mono : ∀ a0 a1 a2 a3 k, LeO (dancestudioref24_Cut.f k a0 a1 a2 a3) (dancestudioref24_Cut.f (k + 1) a0 a1 a2 a3) := by
 intro a0 a1 a2 a3 k
 obtain ⟨ih0, ih1, ih2⟩ := dancestudioref24_Cut.mono_l k
 unfold dancestudioref24_Cut.f
 repeat' first
   | (with_reducible exact ih0 _ _ _ _)
   | (with_reducible exact ih1 _ _ _ _ _)
   | (with_reducible exact ih2 _ _ _ _ _ _)
   | (with_reducible exact dancestudioref24_Check.mono _ _ _)
   | (with_reducible exact LeO.refl _)
   | (with_reducible exact LeO.none _)
   | (with_reducible refine LeO.ite ?_ ?_)
   | (with_reducible refine LeO.bind ?_ (fun _ => ?_))
   | exact ih0 _ _ _ _
   | exact ih1 _ _ _ _ _
   | exact ih2 _ _ _ _ _ _
   | exact dancestudioref24_Check.mono _ _ _
   | exact LeO.none _
   | refine LeO.ite ?_ ?_
   | refine LeO.bind ?_ (fun _ => ?_)
def dancestudioref24_Cut.T10 : Bool × List (List Nat × List Nat) := (true, [([], []), ([], []), ([0, 1], [0, 1]), ([2], [2]), ([], []), ([4], [4]), ([3, 5], [3, 5]), ([6, 6], [6]), ([7], [7]), ([7], [7]), ([8, 9, 7], [7, 8, 9]), ([10, 7], [7, 10]), ([7], [7]), ([12, 7], [7, 12]), ([11, 13, 7, 7], [7, 11, 13]), ([7, 14], [7, 14])])
def dancestudioref24_Cut.B10 : List Nat := [0, 0, 3, 7, 0, 16, 63, 127, 255, 255, 1023, 2047, 255, 4351, 16383, 32767]
theorem dancestudioref24_Cut.tab10 : rtab .any (opsOf Try.f35 10) = dancestudioref24_Cut.T10 := by kernel_rfl
theorem dancestudioref24_Cut.bits10 : waitsOk dancestudioref24_Cut.T10.2 dancestudioref24_Cut.B10 = true := by kernel_rfl
def dancestudioref24_Cut.T12 : Bool × List (List Nat × List Nat) := (true, [([], []), ([], []), ([0, 1], [0, 1]), ([2], [2]), ([3], [3]), ([], []), ([5], [5]), ([4, 6], [4, 6]), ([7], [7]), ([8], [8]), ([8], [8]), ([9, 10, 8], [8, 9, 10]), ([11, 8], [8, 11]), ([12, 8, 8], [8, 12]), ([8], [8]), ([14, 8], [8, 14]), ([13, 15, 8], [8, 13, 15]), ([8, 16], [8, 16])])
def dancestudioref24_Cut.B12 : List Nat := [0, 0, 3, 7, 15, 0, 32, 127, 255, 511, 511, 2047, 4095, 8191, 511, 16895, 65535, 131071]
theorem dancestudioref24_Cut.tab12 : rtab .any (opsOf Try.f35 12) = dancestudioref24_Cut.T12 := by kernel_rfl
theorem dancestudioref24_Cut.bits12 : waitsOk dancestudioref24_Cut.T12.2 dancestudioref24_Cut.B12 = true := by kernel_rfl
set_option maxHeartbeats 8000000 in
set_option maxRecDepth 100000 in
theorem dancestudioref24_Cut.calls (k : Nat) (A0 : Option Addr) (c0 : Nat) (l0 : List (S29)) (a1 : Int) (a2_0 : Int) (a2_1 : Int) (r1 : List (S29)) (r2 : Int) (w : World) (hr0 : Kd.C k29 w A0 l0.length l0) (hc0 : l0.length ≤ c0) (h : dancestudioref24_Cut.f k l0 a1 a2_0 a2_1 = some (r1, r2)) :
  Calls Try.prog 35 #[.slice A0 l0.length c0, .int .i64 a1, .agg #[.int .i64 a2_0, .int .i64 a2_1]] w fun e w' => ∃ v0_ : Value, e = .returned (.tuple #[v0_, .int .i64 r2]) ∧ Kd.R k29 29 w' w.heap.size (fun _ => True) v0_ r1 ∧ Below w.heap.size w w' := by
 have hu45 := Try.underlying45
 have hu29 := Try.underlying29
 have HR0 := Aside0.mk hr0
 have HC0 := Aside0.mk hc0
 clear hr0 hc0
 have HB := Aside0.mk (Below.refl w.heap.size w)
 have H : ((dancestudioref24_Check.f k l0 a1).bind fun t392 => (if t392 = 0 then (if a2_0 < 0 then (dancestudioref24_Cut.j0 k l0 true a2_0 a2_1) else (if a2_0 ≥ a2_1 then (dancestudioref24_Cut.j0 k l0 true a2_0 a2_1) else (dancestudioref24_Cut.j0 k l0 (decide (a2_1 > a1)) a2_0 a2_1))) else (some (([] : List (S29)), t392)))) = some (r1, r2) := h
 clear h
 replace H := Option.bind_eq_some_iff.mp H
 obtain ⟨t392, A40, H⟩ := H
 try dsimp only at H
 have A4 := Aside0.mk A40
 clear A40
 by_cases c5 : t392 = 0
 ·rw [if_pos c5] at H
  have c5b0 : (t392 == 0) = true := beq_iff_eq.mpr c5
  have c5b1 : (t392 != 0) = false := bne_eq_false_iff_eq.mpr c5
  clear c5
  have HC6 := Aside0.mk H
  clear H
  go_enter Try.func35, Try.ntmps35
  go_upto_region 4 with (first | ((with_reducible refine gate_dst (N := 5) rfl ?_); refine box_event ?hg (N := 5) ?hd (cs := #[.int .i64 a2_0, .int .i64 a2_1]) (t := 45) ?hr ?_; (case hd => rfl); (case hg => rfl); (case hr => first | (go_simp; done) | (go_simp; rfl)); intro gb391 hg w7 hbox hb; have n0_ := Aside0.mk (below_step (hU HB.out) hb); have n1_ := Aside0.mk (hbox); have n2_ := Aside0.mk ((by rw [hg]; exact (below_size (hU HB.out)) : w.heap.size ≤ gb391)); have n3_ := Aside0.mk ((by rw [hg]; exact (below_size (hU HB.out)) : w.heap.size ≤ gb391)); clear HB; have HB := n0_; have BK391 := n1_; have GW391 := n2_; have GE391 := n3_; clear n0_ n1_ n2_ n3_; clear hb hbox hg) | ((with_reducible refine gate_callee (f := 21) rfl ?_); refine goesL_ (some 14) rfl rfl Try.func21 (by kernel_rfl) rfl #[.slice A0 l0.length c0, .int .i64 a1] rfl (by (try simp only [List.map_toArray, List.map_cons, List.map_nil]); first | done | rfl | (simp only [List.length_drop, List.length_take]; rfl)) ?_; (with_reducible refine (dancestudioref24_Check.calls k _ _ l0 a1 t392 _ ?side1 ?side2 A4.out).mono ?_); (case side1 => repeat (first | exact (Kd.C_below HR0.out HB.out) | (with_reducible refine Kd.C_alloc ?_ _) | (with_reducible refine Kd.C_drewN ?_ _) | (with_reducible refine Kd.C_drew ?_))); (case side2 => exact HC0.out); rintro e w8 ⟨rfl, hb⟩; refine ⟨_, rfl, ?_⟩; have n0_ := Aside0.mk (blk_below (bU BK391.out) hb); have n1_ := Aside0.mk (below_step (hU HB.out) hb); clear BK391; clear HB; have BK391 := n0_; have HB := n1_; clear n0_ n1_; (try clear hb); (try clear hb2); (try clear hk); (try clear hi)))
  (try simp only [Act.put, List.setIfInBounds_toArray, List.set_cons_zero, List.set_cons_succ])
  go_cut [33] (fun v33 wc => ∃ (kq : Nat) (x33_5 : Bool), v33 = .bool x33_5 ∧ Aside0 (dancestudioref24_Cut.j0 kq l0 x33_5 a2_0 a2_1 = some (r1, r2)) ∧ Aside0 (kq ≤ k) ∧ Aside0 (wc.heap[gb391]? = some (.cells #[.int .i64 a2_0, .int .i64 a2_1] 45 (0, 0))) ∧ Aside0 (Below w.heap.size w wc))
  case first =>
   have H := HC6.out
   clear HC6
   by_cases c9 : a2_0 < 0
   ·rw [if_pos c9] at H
    have c9b0 : decide (a2_0 < 0) = true := decide_eq_true c9
    clear c9
    (first | rw [c9b0] | (simp only [i64_w, i32_w]; rw [c9b0]) | skip)
    have H' := Aside0.mk H
    clear H
    have hcz10_0 := blk_cell BK391.out
    have hfz10_0 := blk_frozen BK391.out
    go_wp2
    go_meet
    case rel => exact ⟨_, (true), (by first | rfl | (simp; done) | (simp [*]; done)), H', ⟨by first | omega | exact Nat.le_refl _⟩, ⟨by (with_reducible repeat (first | refine blk_drewN ?_ _ | refine blk_drew ?_ | refine blk_alloc ?_ _)); exact BK391.out⟩, ⟨hU HB.out⟩⟩
   ·rw [if_neg c9] at H
    have c9b0 : decide (a2_0 < 0) = false := decide_eq_false c9
    clear c9
    (first | rw [c9b0] | (simp only [i64_w, i32_w]; rw [c9b0]) | skip)
    by_cases c11 : a2_0 ≥ a2_1
    ·rw [if_pos c11] at H
     have c11b0 : decide (a2_1 ≤ a2_0) = true := decide_eq_true c11
     clear c11
     have H' := Aside0.mk H
     clear H
     have hcz12_0 := blk_cell BK391.out
     have hfz12_0 := blk_frozen BK391.out
     go_wp2
     go_meet
     case rel => exact ⟨_, (true), (by first | rfl | (simp; done) | (simp [*]; done)), H', ⟨by first | omega | exact Nat.le_refl _⟩, ⟨by (with_reducible repeat (first | refine blk_drewN ?_ _ | refine blk_drew ?_ | refine blk_alloc ?_ _)); exact BK391.out⟩, ⟨hU HB.out⟩⟩
    ·rw [if_neg c11] at H
     have c11b0 : decide (a2_1 ≤ a2_0) = false := decide_eq_false c11
     clear c11
     have H' := Aside0.mk H
     clear H
     have hcz13_0 := blk_cell BK391.out
     have hfz13_0 := blk_frozen BK391.out
     go_wp2
     go_meet
     case rel => exact ⟨_, (decide (a2_1 > a1)), (by first | rfl | (simp; done) | (simp [*]; done)), H', ⟨by first | omega | exact Nat.le_refl _⟩, ⟨by (with_reducible repeat (first | refine blk_drewN ?_ _ | refine blk_drew ?_ | refine blk_alloc ?_ _)); exact BK391.out⟩, ⟨hU HB.out⟩⟩
  case rest =>
   clear HC6
   try clear c1
   try clear c2
   try clear p2
   try clear c3
   try clear c5
   try clear c5b0
   try clear c5b1
   try clear c9
   try clear c9b0
   try clear c11
   try clear c11b0
   try clear hcz10_0
   try clear hcz10_1
   try clear hcz12_0
   try clear hcz12_1
   try clear hcz13_0
   try clear hcz13_1
   try clear hfz10_0
   try clear hfz10_1
   try clear hfz12_0
   try clear hfz12_1
   try clear hfz13_0
   try clear hfz13_1
   obtain ⟨kq, x33_5, rfl, HA, HJ5, BK391, HB⟩ := hcut
   cases kq with
   | zero => exact absurd HA.out (by simp [dancestudioref24_Cut.j0])
   | succ kj5 =>
    have H := HA.out
    clear HA
    simp only [dancestudioref24_Cut.j0] at H
    by_cases c14 : x33_5 = true
    ·subst c14
     have H1 : (some (([] : List (S29)), 1)) = some (r1, r2) := by rw [if_pos rfl] at H; exact H
     clear H
     have H := H1
     clear H1
     simp only [Option.some.injEq, Prod.mk.injEq] at H
     obtain ⟨rfl, rfl⟩ := H
     go_wp2
     go_ret2
     exact ⟨_, by first | rfl | (simp [errW_none, errW_some] <;> rfl) | (simp [*, errW_none, errW_some] <;> rfl), by first | exact Kd.R_nil _ _ _ _ _ | exact Kd.N_nil _ _ _ _ _ | exact Kd.V_nil _ _ _ _ _ | exact Kd.Q_nil _ _ _ _ _ | exact Kd.S_nil _ _ _ _ _, hU HB.out⟩
    ·replace c14 := Bool.eq_false_iff.mpr c14
     subst c14
     have H1 : (dancestudioref24_Cut.l0 kj5 l0 ([] : List (S29)) 0 a2_0 a2_1) = some (r1, r2) := by rw [if_neg (show ¬ (false = true) by decide)] at H; exact H
     clear H
     have H := H1
     clear H1
     have H' := Aside0.mk H
     clear H
     go_wp2
     go_loopg [9, 10] kj5 (fun kq v9 v10 w' => ∃ (x9_2 : List (S29)) (x10_2 : Int), v10 = .int .i64 x10_2 ∧ Aside0 (dancestudioref24_Cut.l0 kq l0 x9_2 x10_2 a2_0 a2_1 = some (r1, r2)) ∧ Aside0 (kq ≤ kj5) ∧ Aside0 (Kd.R k29 29 w' w.heap.size (fun _ => True) v9 x9_2) ∧ Aside0 (w'.heap[gb391]? = some (.cells #[.int .i64 a2_0, .int .i64 a2_1] 45 (0, 0))) ∧ Aside0 (Below w.heap.size w w'))
     case atStart => exact ⟨(([] : List (S29))), (0), (by first | rfl | (simp; done) | (simp [*]; done)), H', ⟨Nat.le_refl _⟩, ⟨by first | exact Kd.R_nil _ _ _ _ _ | exact Kd.N_nil _ _ _ _ _ | exact Kd.V_nil _ _ _ _ _ | exact Kd.Q_nil _ _ _ _ _ | exact Kd.S_nil _ _ _ _ _⟩, ⟨by (with_reducible repeat (first | refine blk_drewN ?_ _ | refine blk_drew ?_ | refine blk_alloc ?_ _)); exact BK391.out⟩, ⟨hU HB.out⟩⟩
     case round =>
      clear H'
      try clear c1
      try clear c2
      try clear p2
      try clear c3
      try clear c5
      try clear c5b0
      try clear c5b1
      try clear c9
      try clear c9b0
      try clear c11
      try clear c11b0
      try clear c14
      try clear hcz10_0
      try clear hcz10_1
      try clear hcz12_0
      try clear hcz12_1
      try clear hcz13_0
      try clear hcz13_1
      try clear hfz10_0
      try clear hfz10_1
      try clear hfz12_0
      try clear hfz12_1
      try clear hfz13_0
      try clear hfz13_1
      try clear p2
      obtain ⟨x9_2, x10_2, rfl, HA, HK2, HO_9, BK391, HB⟩ := hrel
      cases gk with
      | zero => exact absurd HA.out (by simp [dancestudioref24_Cut.l0])
      | succ k2 =>
       have H := HA.out
       clear HA
       simp only [dancestudioref24_Cut.l0] at H
       by_cases c15 : x10_2 < (l0.length : Int)
       ·rw [if_pos c15] at H
        have c15b0 : decide (x10_2 < (l0.length : Int)) = true := decide_eq_true c15
        clear c15
        have HC16 := Aside0.mk H
        clear H
        go_upto_region 10 with (fail)
        go_cut [55] (fun v55 wc => ∃ (kq : Nat) (x55_15 : Bool), v55 = .bool x55_15 ∧ Aside0 (dancestudioref24_Cut.j2 kq l0 x9_2 x10_2 x55_15 a2_0 a2_1 = some (r1, r2)) ∧ Aside0 (kq ≤ k2) ∧ Aside0 (Kd.R k29 29 wc w.heap.size (fun _ => True) u9 x9_2) ∧ Aside0 (wc.heap[gb391]? = some (.cells #[.int .i64 a2_0, .int .i64 a2_1] 45 (0, 0))) ∧ Aside0 (Below w.heap.size w wc))
        case first =>
         have H := HC16.out
         clear HC16
         by_cases c17 : 0 ≤ x10_2
         ·rw [if_pos c17] at H
          have c17b0 : decide (0 ≤ x10_2) = true := decide_eq_true c17
          clear c17
          (first | rw [c17b0] | (simp only [i64_w, i32_w]; rw [c17b0]) | skip)
          replace H := Option.bind_eq_some_iff.mp H
          obtain ⟨t394, A180, H⟩ := H
          try dsimp only at H
          have A18 := Aside0.mk A180
          clear A180
          by_cases c19 : t394 = true
          ·subst c19
           have H1 : (dancestudioref24_Cut.j2 k2 l0 x9_2 x10_2 true a2_0 a2_1) = some (r1, r2) := by rw [if_pos rfl] at H; exact H
           clear H
           have H := H1
           clear H1
           have H' := Aside0.mk H
           clear H
           try go_wp2
           have n0_ := Aside0.mk (Kd.R_drew HO_9.out)
           have n1_ := Aside0.mk (blk_drew BK391.out)
           have n2_ := Aside0.mk (below_drew1 HB.out)
           clear HO_9
           clear BK391
           clear HB
           have HO_9 := n0_
           have BK391 := n1_
           have HB := n2_
           clear n0_ n1_ n2_
           have p393 : 0 ≤ (x10_2 : Int) := of_decide_eq_true (by first | (with_reducible assumption) | assumption)
           have q393 : x10_2 < (l0.length : Int) := of_decide_eq_true (by first | (with_reducible assumption) | assumption)
           obtain ⟨ad393, e393, hx393_0, hx393_1, hx393_2, hx393_3, hx393_4, hx393_5, hx393_6⟩ := at_T29 HR0.out x10_2 p393 q393
           have hw393_6 := hx393_6
           have hw393_5 := hx393_5
           have hw393_4 := hx393_4
           have hw393_3 := hx393_3
           have hw393_2 := hx393_2
           have hw393_1 := hx393_1
           have hw393_0 := hx393_0
           cases e393
           replace hx393_0 := hbC HB hx393_0
           replace hx393_1 := hbC HB hx393_1
           replace hx393_2 := hbC HB hx393_2
           replace hx393_3 := hbC HB hx393_3
           replace hx393_4 := hbC HB hx393_4
           replace hx393_5 := hbC HB hx393_5
           replace hx393_6 := hbC HB hx393_6
           replace p393 := eq_true p393
           replace q393 := eq_true q393
           refine start_ (n := 16) (S := fun w' => w'.cell? ⟨gb391, 0, none⟩ = some (.int .i64 a2_0) ∧ w'.cell? ⟨gb391, 1, none⟩ = some (.int .i64 a2_1) ∧ w'.cell? (ad393.add ((x10_2).toNat * 7)) = some (.int .i64 ((rd_T29 l0 x10_2).f0)) ∧ w'.cell? ⟨(ad393.add ((x10_2).toNat * 7)).block, (ad393.add ((x10_2).toNat * 7)).off + 1, none⟩ = some (.int .i64 ((rd_T29 l0 x10_2).f1)) ∧ w'.cell? ⟨(ad393.add ((x10_2).toNat * 7)).block, (ad393.add ((x10_2).toNat * 7)).off + 2, none⟩ = some (.int .i64 ((rd_T29 l0 x10_2).f2)) ∧ w'.cell? ⟨(ad393.add ((x10_2).toNat * 7)).block, (ad393.add ((x10_2).toNat * 7)).off + 3, none⟩ = some (.int .i64 ((rd_T29 l0 x10_2).f3)) ∧ w'.cell? ⟨(ad393.add ((x10_2).toNat * 7)).block, (ad393.add ((x10_2).toNat * 7)).off + 4, none⟩ = some (.int .i64 ((rd_T29 l0 x10_2).f4)) ∧ w'.cell? ⟨(ad393.add ((x10_2).toNat * 7)).block, (ad393.add ((x10_2).toNat * 7)).off + 5, none⟩ = some (.int .i64 ((rd_T29 l0 x10_2).f5)) ∧ w'.cell? ⟨(ad393.add ((x10_2).toNat * 7)).block, (ad393.add ((x10_2).toNat * 7)).off + 6, none⟩ = some (.int .i64 ((rd_T29 l0 x10_2).f6))) (ds := []) #[false, false, false, false, false, false, false, false, false, false, false, false, false, false, false, false] (by kernel_rfl) rfl rfl ⟨(blk_cell BK391.out 0).trans rfl, (blk_cell BK391.out 1).trans rfl, (hbC HB hw393_0), (hbC HB hw393_1), (hbC HB hw393_2), (hbC HB hw393_3), (hbC HB hw393_4), (hbC HB hw393_5), (hbC HB hw393_6)⟩ (fun hHeld => ?_); refine with_tabW dancestudioref24_Cut.tab10 dancestudioref24_Cut.bits10 (fun HT_ HW_ => ?_)
           generalize wr.drew = w20 at HO_9 BK391 HB hx393_0 hx393_1 hx393_2 hx393_3 hx393_4 hx393_5 hx393_6 hHeld ⊢
           refine puA 0 40 (bs 16 1) ?_
           refine puA 1 41 (bs 16 3) ?_
           refine puA 2 42 (bs 16 7) ?_
           refine puA 4 44 (bs 16 23) ?_
           refine tkA 3 43 (bs 16 31) hHeld ?_
           refine tkA 5 45 (bs 16 63) hHeld ?_
           refine one_ (i := 6) (N := some 46) (bs 16 127) rfl rfl (one_of HT_.out (by kernel_rfl)) (by decide) (fun K hK => ?_)
           refine goes_ Try.func65 (by kernel_rfl) rfl #[.agg #[.int .i64 ((rd_T29 l0 x10_2).f0), .int .i64 ((rd_T29 l0 x10_2).f1), .int .i64 ((rd_T29 l0 x10_2).f2), .int .i64 ((rd_T29 l0 x10_2).f3), .int .i64 ((rd_T29 l0 x10_2).f4), .int .i64 ((rd_T29 l0 x10_2).f5), .int .i64 ((rd_T29 l0 x10_2).f6)], .int .i64 a2_0] (by rfl) rfl rfl (by (try simp only [List.map_toArray, List.map_cons, List.map_nil]); first | done | rfl | (simp only [List.length_drop, List.length_take]; rfl)) ?_
           with_reducible refine (dancestudioref24_across.calls ((rd_T29 l0 x10_2).f0) ((rd_T29 l0 x10_2).f1) ((rd_T29 l0 x10_2).f2) ((rd_T29 l0 x10_2).f3) ((rd_T29 l0 x10_2).f4) ((rd_T29 l0 x10_2).f5) ((rd_T29 l0 x10_2).f6) a2_0 true _ A18.out).mono ?_
           rintro e w21 ⟨rfl, hb⟩
           refine ⟨_, rfl, ?_⟩
           have n0_ := Aside0.mk (Kd.R_below (Kd.rU HO_9.out) hb)
           have n1_ := Aside0.mk (blk_below (bU BK391.out) hb)
           have n2_ := Aside0.mk (below_step (hU HB.out) hb)
           clear HO_9
           clear BK391
           clear HB
           have HO_9 := n0_
           have BK391 := n1_
           have HB := n2_
           clear n0_ n1_ n2_
           (try clear hb)
           (try clear hb2)
           (try clear hk)
           (try clear hi)
           refine hK.out _ _ ⟨(blk_cell BK391.out 0).trans rfl, (blk_cell BK391.out 1).trans rfl, (hbC HB hw393_0), (hbC HB hw393_1), (hbC HB hw393_2), (hbC HB hw393_3), (hbC HB hw393_4), (hbC HB hw393_5), (hbC HB hw393_6)⟩ (fun hHeld => ?_)
           clear hK K
           refine nmA 46 ?_
           refine puA 7 47 (bs 16 255) ?_
           refine skA 8 48 (bs 16 511) ?_
           refine skA 9 49 (bs 16 1023) ?_
           refine skA 10 50 (bs 16 2047) ?_
           refine skA 11 51 (bs 16 4095) ?_
           refine skA 12 52 (bs 16 8191) ?_
           refine skA 13 53 (bs 16 16383) ?_
           refine skA 14 54 (bs 16 32767) ?_
           refine puA 15 55 (bs 16 65535) ?_
           refine done_ (done_of HT_.out (by kernel_rfl)) ?_
           try go_wp2
           go_meet
           case rel => exact ⟨_, (true), (by first | rfl | (simp; done) | (simp [*]; done)), H', ⟨by have := HJ5.out; have := HK2.out; first | omega | exact Nat.le_refl _⟩, ⟨by (with_reducible repeat (first | apply Kd.R_alloc | apply Kd.R_drewN | apply Kd.R_drew)); exact HO_9.out⟩, ⟨by (with_reducible repeat (first | refine blk_drewN ?_ _ | refine blk_drew ?_ | refine blk_alloc ?_ _)); exact BK391.out⟩, ⟨hU HB.out⟩⟩
          ·replace c19 := Bool.eq_false_iff.mpr c19
           subst c19
           rw [if_neg (show ¬ (false = true) by decide)] at H
           replace H := Option.bind_eq_some_iff.mp H
           obtain ⟨t396, A220, H⟩ := H
           replace H : (dancestudioref24_Cut.j2 k2 l0 x9_2 x10_2 t396 a2_0 a2_1) = some (r1, r2) := H
           have A22 := Aside0.mk A220
           clear A220
           have H' := Aside0.mk H
           clear H
           try go_wp2
           have n0_ := Aside0.mk (Kd.R_drew HO_9.out)
           have n1_ := Aside0.mk (blk_drew BK391.out)
           have n2_ := Aside0.mk (below_drew1 HB.out)
           clear HO_9
           clear BK391
           clear HB
           have HO_9 := n0_
           have BK391 := n1_
           have HB := n2_
           clear n0_ n1_ n2_
           have p393 : 0 ≤ (x10_2 : Int) := of_decide_eq_true (by first | (with_reducible assumption) | assumption)
           have q393 : x10_2 < (l0.length : Int) := of_decide_eq_true (by first | (with_reducible assumption) | assumption)
           obtain ⟨ad393, e393, hx393_0, hx393_1, hx393_2, hx393_3, hx393_4, hx393_5, hx393_6⟩ := at_T29 HR0.out x10_2 p393 q393
           have hw393_6 := hx393_6
           have hw393_5 := hx393_5
           have hw393_4 := hx393_4
           have hw393_3 := hx393_3
           have hw393_2 := hx393_2
           have hw393_1 := hx393_1
           have hw393_0 := hx393_0
           cases e393
           replace hx393_0 := hbC HB hx393_0
           replace hx393_1 := hbC HB hx393_1
           replace hx393_2 := hbC HB hx393_2
           replace hx393_3 := hbC HB hx393_3
           replace hx393_4 := hbC HB hx393_4
           replace hx393_5 := hbC HB hx393_5
           replace hx393_6 := hbC HB hx393_6
           replace p393 := eq_true p393
           replace q393 := eq_true q393
           have p395 : 0 ≤ (x10_2 : Int) := of_decide_eq_true (by first | (with_reducible assumption) | assumption)
           have q395 : x10_2 < (l0.length : Int) := of_decide_eq_true (by first | (with_reducible assumption) | assumption)
           obtain ⟨ad395, e395, hx395_0, hx395_1, hx395_2, hx395_3, hx395_4, hx395_5, hx395_6⟩ := at_T29 HR0.out x10_2 p395 q395
           have hw395_6 := hx395_6
           have hw395_5 := hx395_5
           have hw395_4 := hx395_4
           have hw395_3 := hx395_3
           have hw395_2 := hx395_2
           have hw395_1 := hx395_1
           have hw395_0 := hx395_0
           obtain rfl : ad393 = ad395 := (by injection e395)
           replace hx395_0 := hbC HB hx395_0
           replace hx395_1 := hbC HB hx395_1
           replace hx395_2 := hbC HB hx395_2
           replace hx395_3 := hbC HB hx395_3
           replace hx395_4 := hbC HB hx395_4
           replace hx395_5 := hbC HB hx395_5
           replace hx395_6 := hbC HB hx395_6
           replace p395 := eq_true p395
           replace q395 := eq_true q395
           refine start_ (n := 16) (S := fun w' => w'.cell? ⟨gb391, 0, none⟩ = some (.int .i64 a2_0) ∧ w'.cell? ⟨gb391, 1, none⟩ = some (.int .i64 a2_1) ∧ w'.cell? (ad393.add ((x10_2).toNat * 7)) = some (.int .i64 ((rd_T29 l0 x10_2).f0)) ∧ w'.cell? ⟨(ad393.add ((x10_2).toNat * 7)).block, (ad393.add ((x10_2).toNat * 7)).off + 1, none⟩ = some (.int .i64 ((rd_T29 l0 x10_2).f1)) ∧ w'.cell? ⟨(ad393.add ((x10_2).toNat * 7)).block, (ad393.add ((x10_2).toNat * 7)).off + 2, none⟩ = some (.int .i64 ((rd_T29 l0 x10_2).f2)) ∧ w'.cell? ⟨(ad393.add ((x10_2).toNat * 7)).block, (ad393.add ((x10_2).toNat * 7)).off + 3, none⟩ = some (.int .i64 ((rd_T29 l0 x10_2).f3)) ∧ w'.cell? ⟨(ad393.add ((x10_2).toNat * 7)).block, (ad393.add ((x10_2).toNat * 7)).off + 4, none⟩ = some (.int .i64 ((rd_T29 l0 x10_2).f4)) ∧ w'.cell? ⟨(ad393.add ((x10_2).toNat * 7)).block, (ad393.add ((x10_2).toNat * 7)).off + 5, none⟩ = some (.int .i64 ((rd_T29 l0 x10_2).f5)) ∧ w'.cell? ⟨(ad393.add ((x10_2).toNat * 7)).block, (ad393.add ((x10_2).toNat * 7)).off + 6, none⟩ = some (.int .i64 ((rd_T29 l0 x10_2).f6)) ∧ w'.cell? (ad393.add ((x10_2).toNat * 7)) = some (.int .i64 ((rd_T29 l0 x10_2).f0)) ∧ w'.cell? ⟨(ad393.add ((x10_2).toNat * 7)).block, (ad393.add ((x10_2).toNat * 7)).off + 1, none⟩ = some (.int .i64 ((rd_T29 l0 x10_2).f1)) ∧ w'.cell? ⟨(ad393.add ((x10_2).toNat * 7)).block, (ad393.add ((x10_2).toNat * 7)).off + 2, none⟩ = some (.int .i64 ((rd_T29 l0 x10_2).f2)) ∧ w'.cell? ⟨(ad393.add ((x10_2).toNat * 7)).block, (ad393.add ((x10_2).toNat * 7)).off + 3, none⟩ = some (.int .i64 ((rd_T29 l0 x10_2).f3)) ∧ w'.cell? ⟨(ad393.add ((x10_2).toNat * 7)).block, (ad393.add ((x10_2).toNat * 7)).off + 4, none⟩ = some (.int .i64 ((rd_T29 l0 x10_2).f4)) ∧ w'.cell? ⟨(ad393.add ((x10_2).toNat * 7)).block, (ad393.add ((x10_2).toNat * 7)).off + 5, none⟩ = some (.int .i64 ((rd_T29 l0 x10_2).f5)) ∧ w'.cell? ⟨(ad393.add ((x10_2).toNat * 7)).block, (ad393.add ((x10_2).toNat * 7)).off + 6, none⟩ = some (.int .i64 ((rd_T29 l0 x10_2).f6))) (ds := []) #[false, false, false, false, false, false, false, false, false, false, false, false, false, false, false, false] (by kernel_rfl) rfl rfl ⟨(blk_cell BK391.out 0).trans rfl, (blk_cell BK391.out 1).trans rfl, (hbC HB hw393_0), (hbC HB hw393_1), (hbC HB hw393_2), (hbC HB hw393_3), (hbC HB hw393_4), (hbC HB hw393_5), (hbC HB hw393_6), (hbC HB hw395_0), (hbC HB hw395_1), (hbC HB hw395_2), (hbC HB hw395_3), (hbC HB hw395_4), (hbC HB hw395_5), (hbC HB hw395_6)⟩ (fun hHeld => ?_); refine with_tabW dancestudioref24_Cut.tab10 dancestudioref24_Cut.bits10 (fun HT_ HW_ => ?_)
           generalize wr.drew = w23 at HO_9 BK391 HB hx393_0 hx393_1 hx393_2 hx393_3 hx393_4 hx393_5 hx393_6 hx395_0 hx395_1 hx395_2 hx395_3 hx395_4 hx395_5 hx395_6 hHeld ⊢
           refine puA 0 40 (bs 16 1) ?_
           refine puA 1 41 (bs 16 3) ?_
           refine puA 2 42 (bs 16 7) ?_
           refine puA 4 44 (bs 16 23) ?_
           refine tkA 3 43 (bs 16 31) hHeld ?_
           refine tkA 5 45 (bs 16 63) hHeld ?_
           refine one_ (i := 6) (N := some 46) (bs 16 127) rfl rfl (one_of HT_.out (by kernel_rfl)) (by decide) (fun K hK => ?_)
           refine goes_ Try.func65 (by kernel_rfl) rfl #[.agg #[.int .i64 ((rd_T29 l0 x10_2).f0), .int .i64 ((rd_T29 l0 x10_2).f1), .int .i64 ((rd_T29 l0 x10_2).f2), .int .i64 ((rd_T29 l0 x10_2).f3), .int .i64 ((rd_T29 l0 x10_2).f4), .int .i64 ((rd_T29 l0 x10_2).f5), .int .i64 ((rd_T29 l0 x10_2).f6)], .int .i64 a2_0] (by rfl) rfl rfl (by (try simp only [List.map_toArray, List.map_cons, List.map_nil]); first | done | rfl | (simp only [List.length_drop, List.length_take]; rfl)) ?_
           with_reducible refine (dancestudioref24_across.calls ((rd_T29 l0 x10_2).f0) ((rd_T29 l0 x10_2).f1) ((rd_T29 l0 x10_2).f2) ((rd_T29 l0 x10_2).f3) ((rd_T29 l0 x10_2).f4) ((rd_T29 l0 x10_2).f5) ((rd_T29 l0 x10_2).f6) a2_0 false _ A18.out).mono ?_
           rintro e w24 ⟨rfl, hb⟩
           refine ⟨_, rfl, ?_⟩
           have n0_ := Aside0.mk (Kd.R_below (Kd.rU HO_9.out) hb)
           have n1_ := Aside0.mk (blk_below (bU BK391.out) hb)
           have n2_ := Aside0.mk (below_step (hU HB.out) hb)
           clear HO_9
           clear BK391
           clear HB
           have HO_9 := n0_
           have BK391 := n1_
           have HB := n2_
           clear n0_ n1_ n2_
           (try clear hb)
           (try clear hb2)
           (try clear hk)
           (try clear hi)
           refine hK.out _ _ ⟨(blk_cell BK391.out 0).trans rfl, (blk_cell BK391.out 1).trans rfl, (hbC HB hw393_0), (hbC HB hw393_1), (hbC HB hw393_2), (hbC HB hw393_3), (hbC HB hw393_4), (hbC HB hw393_5), (hbC HB hw393_6), (hbC HB hw395_0), (hbC HB hw395_1), (hbC HB hw395_2), (hbC HB hw395_3), (hbC HB hw395_4), (hbC HB hw395_5), (hbC HB hw395_6)⟩ (fun hHeld => ?_)
           clear hK K
           refine nmA 46 ?_
           refine puA 7 47 (bs 16 255) ?_
           refine puA 8 48 (bs 16 511) ?_
           refine puA 9 49 (bs 16 1023) ?_
           refine puA 10 50 (bs 16 2047) ?_
           refine puA 12 52 (bs 16 6143) ?_
           refine tkA 11 51 (bs 16 8191) hHeld ?_
           refine tkA 13 53 (bs 16 16383) hHeld ?_
           refine one_ (i := 14) (N := some 54) (bs 16 32767) rfl rfl (one_of HT_.out (by kernel_rfl)) (by decide) (fun K hK => ?_)
           refine goes_ Try.func65 (by kernel_rfl) rfl #[.agg #[.int .i64 ((rd_T29 l0 x10_2).f0), .int .i64 ((rd_T29 l0 x10_2).f1), .int .i64 ((rd_T29 l0 x10_2).f2), .int .i64 ((rd_T29 l0 x10_2).f3), .int .i64 ((rd_T29 l0 x10_2).f4), .int .i64 ((rd_T29 l0 x10_2).f5), .int .i64 ((rd_T29 l0 x10_2).f6)], .int .i64 a2_1] (by rfl) rfl rfl (by (try simp only [List.map_toArray, List.map_cons, List.map_nil]); first | done | rfl | (simp only [List.length_drop, List.length_take]; rfl)) ?_
           with_reducible refine (dancestudioref24_across.calls ((rd_T29 l0 x10_2).f0) ((rd_T29 l0 x10_2).f1) ((rd_T29 l0 x10_2).f2) ((rd_T29 l0 x10_2).f3) ((rd_T29 l0 x10_2).f4) ((rd_T29 l0 x10_2).f5) ((rd_T29 l0 x10_2).f6) a2_1 t396 _ A22.out).mono ?_
           rintro e w25 ⟨rfl, hb⟩
           refine ⟨_, rfl, ?_⟩
           have n0_ := Aside0.mk (Kd.R_below (Kd.rU HO_9.out) hb)
           have n1_ := Aside0.mk (blk_below (bU BK391.out) hb)
           have n2_ := Aside0.mk (below_step (hU HB.out) hb)
           clear HO_9
           clear BK391
           clear HB
           have HO_9 := n0_
           have BK391 := n1_
           have HB := n2_
           clear n0_ n1_ n2_
           (try clear hb)
           (try clear hb2)
           (try clear hk)
           (try clear hi)
           refine hK.out _ _ ⟨(blk_cell BK391.out 0).trans rfl, (blk_cell BK391.out 1).trans rfl, (hbC HB hw393_0), (hbC HB hw393_1), (hbC HB hw393_2), (hbC HB hw393_3), (hbC HB hw393_4), (hbC HB hw393_5), (hbC HB hw393_6), (hbC HB hw395_0), (hbC HB hw395_1), (hbC HB hw395_2), (hbC HB hw395_3), (hbC HB hw395_4), (hbC HB hw395_5), (hbC HB hw395_6)⟩ (fun hHeld => ?_)
           clear hK K
           refine nmA 54 ?_
           refine puA 15 55 (bs 16 65535) ?_
           refine done_ (done_of HT_.out (by kernel_rfl)) ?_
           try go_wp2
           go_meet
           case rel => exact ⟨_, (t396), (by first | rfl | (simp; done) | (simp [*]; done)), H', ⟨by have := HJ5.out; have := HK2.out; first | omega | exact Nat.le_refl _⟩, ⟨by (with_reducible repeat (first | apply Kd.R_alloc | apply Kd.R_drewN | apply Kd.R_drew)); exact HO_9.out⟩, ⟨by (with_reducible repeat (first | refine blk_drewN ?_ _ | refine blk_drew ?_ | refine blk_alloc ?_ _)); exact BK391.out⟩, ⟨hU HB.out⟩⟩
         ·rw [if_neg c17] at H
          exact absurd H (by simp)
        case rest =>
         clear HC16
         try clear c1
         try clear c2
         try clear p2
         try clear c3
         try clear p3
         try clear q3
         try clear hx3
         try clear c5
         try clear c5b0
         try clear c5b1
         try clear c6
         try clear c9
         try clear c9b0
         try clear c11
         try clear c11b0
         try clear c14
         try clear c15
         try clear c15b0
         try clear c17
         try clear c17b0
         try clear c19
         try clear c21
         try clear hcz10_0
         try clear hcz10_1
         try clear hcz12_0
         try clear hcz12_1
         try clear hcz13_0
         try clear hcz13_1
         try clear hfz10_0
         try clear hfz10_1
         try clear hfz12_0
         try clear hfz12_1
         try clear hfz13_0
         try clear hfz13_1
         try clear hx393_0
         try clear hx393_1
         try clear hx393_2
         try clear hx393_3
         try clear hx393_4
         try clear hx393_5
         try clear hx393_6
         try clear hx395_0
         try clear hx395_1
         try clear hx395_2
         try clear hx395_3
         try clear hx395_4
         try clear hx395_5
         try clear hx395_6
         try clear p2
         try clear p393
         try clear p395
         try clear q393
         try clear q395
         obtain ⟨kq, x55_15, rfl, HA, HJ15, HO_9, BK391, HB⟩ := hcut
         cases kq with
         | zero => exact absurd HA.out (by simp [dancestudioref24_Cut.j2])
         | succ kj15 =>
          have H := HA.out
          clear HA
          simp only [dancestudioref24_Cut.j2] at H
          by_cases c26 : x55_15 = true
          ·subst c26
           have H1 : (some (([] : List (S29)), 17)) = some (r1, r2) := by rw [if_pos rfl] at H; exact H
           clear H
           have H := H1
           clear H1
           simp only [Option.some.injEq, Prod.mk.injEq] at H
           obtain ⟨rfl, rfl⟩ := H
           go_wp2
           go_ret2
           exact ⟨_, by first | rfl | (simp [errW_none, errW_some] <;> rfl) | (simp [*, errW_none, errW_some] <;> rfl), by first | exact Kd.R_nil _ _ _ _ _ | exact Kd.N_nil _ _ _ _ _ | exact Kd.V_nil _ _ _ _ _ | exact Kd.Q_nil _ _ _ _ _ | exact Kd.S_nil _ _ _ _ _, hU HB.out⟩
          ·replace c26 := Bool.eq_false_iff.mpr c26
           subst c26
           rw [if_neg (show ¬ (false = true) by decide)] at H
           by_cases c27 : 0 ≤ x10_2
           ·rw [if_pos c27] at H
            have c27b0 : decide (0 ≤ x10_2) = true := decide_eq_true c27
            clear c27
            by_cases c28 : x10_2 < (l0.length : Int)
            ·rw [if_pos c28] at H
             have c28b0 : decide (x10_2 < (l0.length : Int)) = true := decide_eq_true c28
             clear c28
             by_cases c29 : ((rd_T29 l0 x10_2).f2) ≥ a2_0
             ·rw [if_pos c29] at H
              have c29b0 : decide (a2_0 ≤ ((rd_T29 l0 x10_2).f2)) = true := decide_eq_true c29
              clear c29
              replace H := Option.bind_eq_some_iff.mp H
              obtain ⟨t399, A300, H⟩ := H
              try dsimp only at H
              have A30 := Aside0.mk A300
              clear A300
              by_cases c31 : t399 ≤ a2_1
              ·rw [if_pos c31] at H
               have c31b0 : decide (t399 ≤ a2_1) = true := decide_eq_true c31
               clear c31
               by_cases c32 : x9_2.length < 2513169434916
               ·rw [if_pos c32] at H
                have LMc32 := Aside0.mk c32
                clear c32
                obtain ⟨y402, hy402⟩ : ∃ y_ : List (S29), y_ = (x9_2 ++ [(⟨(rd_T29 l0 x10_2).f0, (rd_T29 l0 x10_2).f1, wrap64 (((rd_T29 l0 x10_2).f2) - a2_0), (rd_T29 l0 x10_2).f3, (rd_T29 l0 x10_2).f4, (rd_T29 l0 x10_2).f5, (rd_T29 l0 x10_2).f6⟩ : S29)]) := ⟨_, rfl⟩
                replace H : (dancestudioref24_Cut.l0 kj15 l0 y402 (wrap64 (x10_2 + 1)) a2_0 a2_1) = some (r1, r2) := by first | (rw [hy402]; with_reducible exact H) | (have H2_ := (Option.bind_some _ _).symm.trans H; rw [hy402]; with_reducible exact H2_) | (have H2_ := (Option.bind_some _ _).symm.trans H; with_reducible exact H2_) | with_reducible exact H | (rw [hy402]; exact H) | exact H
                have Ny402 := Aside0.mk hy402
                clear hy402
                have H' := Aside0.mk H
                clear H
                try go_wp2
                have n0_ := Aside0.mk (Kd.R_drew HO_9.out)
                have n1_ := Aside0.mk (blk_drew BK391.out)
                have n2_ := Aside0.mk (below_drew1 HB.out)
                clear HO_9
                clear BK391
                clear HB
                have HO_9 := n0_
                have BK391 := n1_
                have HB := n2_
                clear n0_ n1_ n2_
                have p397 : 0 ≤ (x10_2 : Int) := of_decide_eq_true (by first | (with_reducible assumption) | assumption)
                have q397 : x10_2 < (l0.length : Int) := of_decide_eq_true (by first | (with_reducible assumption) | assumption)
                obtain ⟨ad397, e397, hx397_0, hx397_1, hx397_2, hx397_3, hx397_4, hx397_5, hx397_6⟩ := at_T29 HR0.out x10_2 p397 q397
                have hw397_6 := hx397_6
                have hw397_5 := hx397_5
                have hw397_4 := hx397_4
                have hw397_3 := hx397_3
                have hw397_2 := hx397_2
                have hw397_1 := hx397_1
                have hw397_0 := hx397_0
                cases e397
                replace hx397_0 := hbC HB hx397_0
                replace hx397_1 := hbC HB hx397_1
                replace hx397_2 := hbC HB hx397_2
                replace hx397_3 := hbC HB hx397_3
                replace hx397_4 := hbC HB hx397_4
                replace hx397_5 := hbC HB hx397_5
                replace hx397_6 := hbC HB hx397_6
                replace p397 := eq_true p397
                replace q397 := eq_true q397
                have p398 : 0 ≤ (x10_2 : Int) := of_decide_eq_true (by first | (with_reducible assumption) | assumption)
                have q398 : x10_2 < (l0.length : Int) := of_decide_eq_true (by first | (with_reducible assumption) | assumption)
                obtain ⟨ad398, e398, hx398_0, hx398_1, hx398_2, hx398_3, hx398_4, hx398_5, hx398_6⟩ := at_T29 HR0.out x10_2 p398 q398
                have hw398_6 := hx398_6
                have hw398_5 := hx398_5
                have hw398_4 := hx398_4
                have hw398_3 := hx398_3
                have hw398_2 := hx398_2
                have hw398_1 := hx398_1
                have hw398_0 := hx398_0
                obtain rfl : ad397 = ad398 := (by injection e398)
                replace hx398_0 := hbC HB hx398_0
                replace hx398_1 := hbC HB hx398_1
                replace hx398_2 := hbC HB hx398_2
                replace hx398_3 := hbC HB hx398_3
                replace hx398_4 := hbC HB hx398_4
                replace hx398_5 := hbC HB hx398_5
                replace hx398_6 := hbC HB hx398_6
                replace p398 := eq_true p398
                replace q398 := eq_true q398
                refine start_ (n := 18) (S := fun w' => w'.cell? ⟨gb391, 0, none⟩ = some (.int .i64 a2_0) ∧ w'.cell? ⟨gb391, 1, none⟩ = some (.int .i64 a2_1) ∧ w'.cell? (ad397.add ((x10_2).toNat * 7)) = some (.int .i64 ((rd_T29 l0 x10_2).f0)) ∧ w'.cell? ⟨(ad397.add ((x10_2).toNat * 7)).block, (ad397.add ((x10_2).toNat * 7)).off + 1, none⟩ = some (.int .i64 ((rd_T29 l0 x10_2).f1)) ∧ w'.cell? ⟨(ad397.add ((x10_2).toNat * 7)).block, (ad397.add ((x10_2).toNat * 7)).off + 2, none⟩ = some (.int .i64 ((rd_T29 l0 x10_2).f2)) ∧ w'.cell? ⟨(ad397.add ((x10_2).toNat * 7)).block, (ad397.add ((x10_2).toNat * 7)).off + 3, none⟩ = some (.int .i64 ((rd_T29 l0 x10_2).f3)) ∧ w'.cell? ⟨(ad397.add ((x10_2).toNat * 7)).block, (ad397.add ((x10_2).toNat * 7)).off + 4, none⟩ = some (.int .i64 ((rd_T29 l0 x10_2).f4)) ∧ w'.cell? ⟨(ad397.add ((x10_2).toNat * 7)).block, (ad397.add ((x10_2).toNat * 7)).off + 5, none⟩ = some (.int .i64 ((rd_T29 l0 x10_2).f5)) ∧ w'.cell? ⟨(ad397.add ((x10_2).toNat * 7)).block, (ad397.add ((x10_2).toNat * 7)).off + 6, none⟩ = some (.int .i64 ((rd_T29 l0 x10_2).f6)) ∧ w'.cell? (ad397.add ((x10_2).toNat * 7)) = some (.int .i64 ((rd_T29 l0 x10_2).f0)) ∧ w'.cell? ⟨(ad397.add ((x10_2).toNat * 7)).block, (ad397.add ((x10_2).toNat * 7)).off + 1, none⟩ = some (.int .i64 ((rd_T29 l0 x10_2).f1)) ∧ w'.cell? ⟨(ad397.add ((x10_2).toNat * 7)).block, (ad397.add ((x10_2).toNat * 7)).off + 2, none⟩ = some (.int .i64 ((rd_T29 l0 x10_2).f2)) ∧ w'.cell? ⟨(ad397.add ((x10_2).toNat * 7)).block, (ad397.add ((x10_2).toNat * 7)).off + 3, none⟩ = some (.int .i64 ((rd_T29 l0 x10_2).f3)) ∧ w'.cell? ⟨(ad397.add ((x10_2).toNat * 7)).block, (ad397.add ((x10_2).toNat * 7)).off + 4, none⟩ = some (.int .i64 ((rd_T29 l0 x10_2).f4)) ∧ w'.cell? ⟨(ad397.add ((x10_2).toNat * 7)).block, (ad397.add ((x10_2).toNat * 7)).off + 5, none⟩ = some (.int .i64 ((rd_T29 l0 x10_2).f5)) ∧ w'.cell? ⟨(ad397.add ((x10_2).toNat * 7)).block, (ad397.add ((x10_2).toNat * 7)).off + 6, none⟩ = some (.int .i64 ((rd_T29 l0 x10_2).f6))) (ds := []) #[false, false, false, false, false, false, false, false, false, false, false, false, false, false, false, false, false, false] (by kernel_rfl) rfl rfl ⟨(blk_cell BK391.out 0).trans rfl, (blk_cell BK391.out 1).trans rfl, (hbC HB hw397_0), (hbC HB hw397_1), (hbC HB hw397_2), (hbC HB hw397_3), (hbC HB hw397_4), (hbC HB hw397_5), (hbC HB hw397_6), (hbC HB hw398_0), (hbC HB hw398_1), (hbC HB hw398_2), (hbC HB hw398_3), (hbC HB hw398_4), (hbC HB hw398_5), (hbC HB hw398_6)⟩ (fun hHeld => ?_); refine with_tabW dancestudioref24_Cut.tab12 dancestudioref24_Cut.bits12 (fun HT_ HW_ => ?_)
                generalize wc.drew = w33 at HO_9 BK391 HB hx397_0 hx397_1 hx397_2 hx397_3 hx397_4 hx397_5 hx397_6 hx398_0 hx398_1 hx398_2 hx398_3 hx398_4 hx398_5 hx398_6 hHeld ⊢
                refine puA 0 56 (bs 18 1) ?_
                refine puA 1 57 (bs 18 3) ?_
                refine puA 2 58 (bs 18 7) ?_
                refine puA 3 59 (bs 18 15) ?_
                refine puA 5 61 (bs 18 47) ?_
                refine tkA 4 60 (bs 18 63) hHeld ?_
                refine tkA 6 62 (bs 18 127) hHeld ?_
                refine puA 7 63 (bs 18 255) ?_
                refine puA 8 64 (bs 18 511) ?_
                refine puA 9 65 (bs 18 1023) ?_
                refine puA 10 66 (bs 18 2047) ?_
                refine puA 11 67 (bs 18 4095) ?_
                refine puA 14 70 (bs 18 20479) ?_
                refine tkA 12 68 (bs 18 24575) hHeld ?_
                refine tkA 15 71 (bs 18 57343) hHeld ?_
                refine one_ (i := 13) (N := some 69) (bs 18 65535) rfl rfl (one_of HT_.out (by kernel_rfl)) (by decide) (fun K hK => ?_)
                refine goes_ Try.func57 (by kernel_rfl) rfl #[.agg #[.int .i64 ((rd_T29 l0 x10_2).f0), .int .i64 ((rd_T29 l0 x10_2).f1), .int .i64 ((rd_T29 l0 x10_2).f2), .int .i64 ((rd_T29 l0 x10_2).f3), .int .i64 ((rd_T29 l0 x10_2).f4), .int .i64 ((rd_T29 l0 x10_2).f5), .int .i64 ((rd_T29 l0 x10_2).f6)]] (by rfl) rfl rfl (by (try simp only [List.map_toArray, List.map_cons, List.map_nil]); first | done | rfl | (simp only [List.length_drop, List.length_take]; rfl)) ?_
                with_reducible refine (dancestudioref24_end.calls ((rd_T29 l0 x10_2).f0) ((rd_T29 l0 x10_2).f1) ((rd_T29 l0 x10_2).f2) ((rd_T29 l0 x10_2).f3) ((rd_T29 l0 x10_2).f4) ((rd_T29 l0 x10_2).f5) ((rd_T29 l0 x10_2).f6) t399 _ A30.out).mono ?_
                rintro e w34 ⟨rfl, hb⟩
                refine ⟨_, rfl, ?_⟩
                have n0_ := Aside0.mk (Kd.R_below (Kd.rU HO_9.out) hb)
                have n1_ := Aside0.mk (blk_below (bU BK391.out) hb)
                have n2_ := Aside0.mk (below_step (hU HB.out) hb)
                clear HO_9
                clear BK391
                clear HB
                have HO_9 := n0_
                have BK391 := n1_
                have HB := n2_
                clear n0_ n1_ n2_
                (try clear hb)
                (try clear hb2)
                (try clear hk)
                (try clear hi)
                refine hK.out _ _ ⟨(blk_cell BK391.out 0).trans rfl, (blk_cell BK391.out 1).trans rfl, (hbC HB hw397_0), (hbC HB hw397_1), (hbC HB hw397_2), (hbC HB hw397_3), (hbC HB hw397_4), (hbC HB hw397_5), (hbC HB hw397_6), (hbC HB hw398_0), (hbC HB hw398_1), (hbC HB hw398_2), (hbC HB hw398_3), (hbC HB hw398_4), (hbC HB hw398_5), (hbC HB hw398_6)⟩ (fun hHeld => ?_)
                clear hK K
                refine nmA 69 ?_
                refine puA 16 72 (bs 18 131071) ?_
                refine puA 17 73 (bs 18 262143) ?_
                refine done_ (done_of HT_.out (by kernel_rfl)) ?_
                have p400 : 0 ≤ (x10_2 : Int) := of_decide_eq_true (by first | (with_reducible assumption) | assumption)
                have q400 : x10_2 < (l0.length : Int) := of_decide_eq_true (by first | (with_reducible assumption) | assumption)
                obtain ⟨ad400, e400, hx400_0, hx400_1, hx400_2, hx400_3, hx400_4, hx400_5, hx400_6⟩ := at_T29 HR0.out x10_2 p400 q400
                obtain rfl : ad397 = ad400 := (by injection e400)
                replace hx400_0 := hbC HB hx400_0
                replace hx400_1 := hbC HB hx400_1
                replace hx400_2 := hbC HB hx400_2
                replace hx400_3 := hbC HB hx400_3
                replace hx400_4 := hbC HB hx400_4
                replace hx400_5 := hbC HB hx400_5
                replace hx400_6 := hbC HB hx400_6
                replace p400 := eq_true p400
                replace q400 := eq_true q400
                go_upto_region 15 with (first | ((with_reducible refine gate_dst (N := 11) rfl ?_); refine box_event ?hg (N := 11) ?hd (cs := #[.int .i64 0, .int .i64 0, .int .i64 0, .int .i64 0, .int .i64 0, .int .i64 0, .int .i64 0]) (t := 29) ?hr ?_; (case hd => rfl); (case hg => rfl); (case hr => first | (go_simp; done) | (go_simp; rfl)); intro gb401 hg w35 hbox hb; have n0_ := Aside0.mk (Kd.R_below (Kd.R_elderB (Kd.rU HO_9.out) gb401 (Nat.le_of_eq hg.symm)) hb); have n1_ := Aside0.mk (blk_below (bU BK391.out) hb); have n2_ := Aside0.mk (below_step (hU HB.out) hb); have n3_ := Aside0.mk (hbox); have n4_ := Aside0.mk ((by rw [hg]; exact (below_size (hU HB.out)) : w.heap.size ≤ gb401)); have n5_ := Aside0.mk ((by rw [hg]; exact (below_size (hU HB.out)) : w.heap.size ≤ gb401)); have n6_ := Aside0.mk ((by rw [hg]; exact Nat.ne_of_lt (blk_lt (bU BK391.out)) : gb391 ≠ gb401)); have n7_ := Aside0.mk ((by rw [hg]; exact Nat.ne_of_gt (blk_lt (bU BK391.out)) : gb401 ≠ gb391)); clear HO_9; clear BK391; clear HB; have HO_9 := n0_; have BK391 := n1_; have HB := n2_; have BK401 := n3_; have GW401 := n4_; have GE401 := n5_; have NB391_401 := n6_; have NB401_391 := n7_; clear n0_ n1_ n2_ n3_ n4_ n5_ n6_ n7_; clear hb hbox hg; have hnb36 := NB401_391.out; have hnc36 := NB391_401.out; have hcz37_0 := blk_cell BK401.out; have hfz37_0 := blk_frozen BK401.out; have hcz38_0 := blk_cell BK391.out; have hfz38_0 := blk_frozen BK391.out))
                refine name_world (fun WX hWX => ?_)
                have HWX := Aside0.mk hWX
                clear hWX
                have hBX : WX.heap[gb401]? = some (.cells #[.int .i64 ((rd_T29 l0 x10_2).f0), .int .i64 ((rd_T29 l0 x10_2).f1), .int .i64 (wrap64 (((rd_T29 l0 x10_2).f2) - a2_0)), .int .i64 ((rd_T29 l0 x10_2).f3), .int .i64 ((rd_T29 l0 x10_2).f4), .int .i64 ((rd_T29 l0 x10_2).f5), .int .i64 ((rd_T29 l0 x10_2).f6)] 29 (0, 0)) := by rw [HWX.out]; apply blk_put; (iterate 7 (apply blk_set)); exact BK401.out; simp only [List.setIfInBounds_toArray, List.set_cons_zero, List.set_cons_succ]
                have hcX := blk_cell hBX
                have hfX := blk_frozen hBX
                clear hBX
                go_wp2_with (first | ((with_reducible refine gate_builtin (b := .append) (xs := #[.tmp 84, .tmp 86]) rfl ?_); at_builtin; have hw_ := HWX.out; subst hw_; refine Kd.R_append k29 (w0 := w) w.heap.size rfl (.tmp 84) (.tmp 86) 22 29 (.agg #[(.int .i64 0), (.int .i64 0), (.int .i64 0), (.int .i64 0), (.int .i64 0), (.int .i64 0), (.int .i64 0)]) 56 rfl Try.underlying22 info29 rfl (by decide) (by omega) u9 x9_2 (⟨(rd_T29 l0 x10_2).f0, (rd_T29 l0 x10_2).f1, wrap64 (((rd_T29 l0 x10_2).f2) - a2_0), (rd_T29 l0 x10_2).f3, (rd_T29 l0 x10_2).f4, (rd_T29 l0 x10_2).f5, (rd_T29 l0 x10_2).f6⟩ : S29) [.int .i64 ((rd_T29 l0 x10_2).f0), .int .i64 ((rd_T29 l0 x10_2).f1), .int .i64 (wrap64 (((rd_T29 l0 x10_2).f2) - a2_0)), .int .i64 ((rd_T29 l0 x10_2).f3), .int .i64 ((rd_T29 l0 x10_2).f4), .int .i64 ((rd_T29 l0 x10_2).f5), .int .i64 ((rd_T29 l0 x10_2).f6)] (fun k_ => k_ ≠ gb401) (fun _ => False) rfl (by first | (go_simp; done) | (go_simp; rfl)) ?aP (fun _ hk => hk.elim) ?aF ?aO ?aB ?aS ?aL ?_; (case aP => exact k29_mkM _ _ _ (⟨(rd_T29 l0 x10_2).f0, (rd_T29 l0 x10_2).f1, wrap64 (((rd_T29 l0 x10_2).f2) - a2_0), (rd_T29 l0 x10_2).f3, (rd_T29 l0 x10_2).f4, (rd_T29 l0 x10_2).f5, (rd_T29 l0 x10_2).f6⟩ : S29)); (case aB => exact (hU HB.out)); (case aF => exact (fun k_ hk => Kd.freshB (g := gb401) (o := .cells #[.int .i64 ((rd_T29 l0 x10_2).f0), .int .i64 ((rd_T29 l0 x10_2).f1), .int .i64 (wrap64 (((rd_T29 l0 x10_2).f2) - a2_0)), .int .i64 ((rd_T29 l0 x10_2).f3), .int .i64 ((rd_T29 l0 x10_2).f4), .int .i64 ((rd_T29 l0 x10_2).f5), .int .i64 ((rd_T29 l0 x10_2).f6)] 29 (0, 0)) (by (with_reducible repeat (first | refine blk_drewN ?_ _ | refine blk_drew ?_ | refine blk_alloc ?_ _)); apply blk_put; (iterate 7 ((with_reducible repeat (first | refine blk_drewN ?_ _ | refine blk_drew ?_ | refine blk_alloc ?_ _)); apply blk_set)); (with_reducible repeat (first | refine blk_drewN ?_ _ | refine blk_drew ?_ | refine blk_alloc ?_ _)); exact BK401.out; simp only [List.setIfInBounds_toArray, List.set_cons_zero, List.set_cons_succ]) k_ hk)); (case aO => exact (by (with_reducible repeat (first | apply Kd.R_alloc | apply Kd.R_drewN | apply Kd.R_drew)); exact Kd.R_mono (Kd.R_far (p := ⟨gb401, 2, none⟩) (Kd.R_far (p := ⟨gb401, 6, none⟩) (Kd.R_far (p := ⟨gb401, 5, none⟩) (Kd.R_far (p := ⟨gb401, 4, none⟩) (Kd.R_far (p := ⟨gb401, 3, none⟩) (Kd.R_far (p := ⟨gb401, 2, none⟩) (Kd.R_far (p := ⟨gb401, 1, none⟩) (Kd.R_far (p := ⟨gb401, 0, none⟩) (Kd.R_mono HO_9.out (fun k_ hk => (⟨hk, hk.2⟩ : _ ∧ k_ ≠ gb401))) (fun _ hk => hk.2) (.int .i64 ((rd_T29 l0 x10_2).f0))) (fun _ hk => hk.2) (.int .i64 ((rd_T29 l0 x10_2).f1))) (fun _ hk => hk.2) (.int .i64 ((rd_T29 l0 x10_2).f2))) (fun _ hk => hk.2) (.int .i64 ((rd_T29 l0 x10_2).f3))) (fun _ hk => hk.2) (.int .i64 ((rd_T29 l0 x10_2).f4))) (fun _ hk => hk.2) (.int .i64 ((rd_T29 l0 x10_2).f5))) (fun _ hk => hk.2) (.int .i64 ((rd_T29 l0 x10_2).f6))) (fun _ hk => hk.2) (.int .i64 (wrap64 (((rd_T29 l0 x10_2).f2) - a2_0)))) (fun _ hk => hk.1.2))); (case aS => exact (below_size (hU HB.out))); (case aL => have := LMc32.out; omega); intro v403 w39 ho hb hg hat; rw [← Ny402.out] at ho; have n0_ := Aside0.mk (blk_grown (g := gb391) (o := .cells #[.int .i64 a2_0, .int .i64 a2_1] 45 (0, 0)) (by (iterate 8 ((with_reducible repeat (first | refine blk_drewN ?_ _ | refine blk_drew ?_ | refine blk_alloc ?_ _)); refine (Below.heap_setCell _ ⟨_, _, none⟩ _ _ NB391_401.out).trans ?_)); (with_reducible repeat (first | refine blk_drewN ?_ _ | refine blk_drew ?_ | refine blk_alloc ?_ _)); exact BK391.out) hg (Kd.R_ne HO_9.out BK391.out (by decide))); have n1_ := Aside0.mk (blk_grown (g := gb401) (o := .cells #[.int .i64 ((rd_T29 l0 x10_2).f0), .int .i64 ((rd_T29 l0 x10_2).f1), .int .i64 (wrap64 (((rd_T29 l0 x10_2).f2) - a2_0)), .int .i64 ((rd_T29 l0 x10_2).f3), .int .i64 ((rd_T29 l0 x10_2).f4), .int .i64 ((rd_T29 l0 x10_2).f5), .int .i64 ((rd_T29 l0 x10_2).f6)] 29 (0, 0)) (by (with_reducible repeat (first | refine blk_drewN ?_ _ | refine blk_drew ?_ | refine blk_alloc ?_ _)); apply blk_put; (iterate 7 ((with_reducible repeat (first | refine blk_drewN ?_ _ | refine blk_drew ?_ | refine blk_alloc ?_ _)); apply blk_set)); (with_reducible repeat (first | refine blk_drewN ?_ _ | refine blk_drew ?_ | refine blk_alloc ?_ _)); exact BK401.out; simp only [List.setIfInBounds_toArray, List.set_cons_zero, List.set_cons_succ]) hg (Kd.R_away HO_9.out (fun _ hk => hk.2))); have n2_ := Aside0.mk (hb); have n3_ := Aside0.mk (ho); clear BK391; clear BK401; clear HB; clear HO_9; have BK391 := n0_; have BK401 := n1_; have HB := n2_; have HO404 := n3_; clear n0_ n1_ n2_ n3_; clear ho hb hg hat))
                go_roundg kj15
                case measure => have := HJ5.out; have := HK2.out; have := HJ15.out; omega
                case rel => exact ⟨(y402), (wrap64 (x10_2 + 1)), (by first | rfl | (simp; done) | (simp [*]; done)), H', ⟨by have := HJ5.out; have := HK2.out; have := HJ15.out; omega⟩, ⟨by (with_reducible repeat (first | apply Kd.R_alloc | apply Kd.R_drewN | apply Kd.R_drew)); exact Kd.R_mono HO404.out (fun _ hk => trivial)⟩, ⟨by (with_reducible repeat (first | refine blk_drewN ?_ _ | refine blk_drew ?_ | refine blk_alloc ?_ _)); exact BK391.out⟩, ⟨hU HB.out⟩⟩
               ·rw [if_neg c32] at H
                exact absurd H (by simp)
              ·rw [if_neg c31] at H
               have c31b0 : decide (t399 ≤ a2_1) = false := decide_eq_false c31
               clear c31
               have H' := Aside0.mk H
               clear H
               try go_wp2
               have n0_ := Aside0.mk (Kd.R_drew HO_9.out)
               have n1_ := Aside0.mk (blk_drew BK391.out)
               have n2_ := Aside0.mk (below_drew1 HB.out)
               clear HO_9
               clear BK391
               clear HB
               have HO_9 := n0_
               have BK391 := n1_
               have HB := n2_
               clear n0_ n1_ n2_
               have p397 : 0 ≤ (x10_2 : Int) := of_decide_eq_true (by first | (with_reducible assumption) | assumption)
               have q397 : x10_2 < (l0.length : Int) := of_decide_eq_true (by first | (with_reducible assumption) | assumption)
               obtain ⟨ad397, e397, hx397_0, hx397_1, hx397_2, hx397_3, hx397_4, hx397_5, hx397_6⟩ := at_T29 HR0.out x10_2 p397 q397
               have hw397_6 := hx397_6
               have hw397_5 := hx397_5
               have hw397_4 := hx397_4
               have hw397_3 := hx397_3
               have hw397_2 := hx397_2
               have hw397_1 := hx397_1
               have hw397_0 := hx397_0
               cases e397
               replace hx397_0 := hbC HB hx397_0
               replace hx397_1 := hbC HB hx397_1
               replace hx397_2 := hbC HB hx397_2
               replace hx397_3 := hbC HB hx397_3
               replace hx397_4 := hbC HB hx397_4
               replace hx397_5 := hbC HB hx397_5
               replace hx397_6 := hbC HB hx397_6
               replace p397 := eq_true p397
               replace q397 := eq_true q397
               have p398 : 0 ≤ (x10_2 : Int) := of_decide_eq_true (by first | (with_reducible assumption) | assumption)
               have q398 : x10_2 < (l0.length : Int) := of_decide_eq_true (by first | (with_reducible assumption) | assumption)
               obtain ⟨ad398, e398, hx398_0, hx398_1, hx398_2, hx398_3, hx398_4, hx398_5, hx398_6⟩ := at_T29 HR0.out x10_2 p398 q398
               have hw398_6 := hx398_6
               have hw398_5 := hx398_5
               have hw398_4 := hx398_4
               have hw398_3 := hx398_3
               have hw398_2 := hx398_2
               have hw398_1 := hx398_1
               have hw398_0 := hx398_0
               obtain rfl : ad397 = ad398 := (by injection e398)
               replace hx398_0 := hbC HB hx398_0
               replace hx398_1 := hbC HB hx398_1
               replace hx398_2 := hbC HB hx398_2
               replace hx398_3 := hbC HB hx398_3
               replace hx398_4 := hbC HB hx398_4
               replace hx398_5 := hbC HB hx398_5
               replace hx398_6 := hbC HB hx398_6
               replace p398 := eq_true p398
               replace q398 := eq_true q398
               refine start_ (n := 18) (S := fun w' => w'.cell? ⟨gb391, 0, none⟩ = some (.int .i64 a2_0) ∧ w'.cell? ⟨gb391, 1, none⟩ = some (.int .i64 a2_1) ∧ w'.cell? (ad397.add ((x10_2).toNat * 7)) = some (.int .i64 ((rd_T29 l0 x10_2).f0)) ∧ w'.cell? ⟨(ad397.add ((x10_2).toNat * 7)).block, (ad397.add ((x10_2).toNat * 7)).off + 1, none⟩ = some (.int .i64 ((rd_T29 l0 x10_2).f1)) ∧ w'.cell? ⟨(ad397.add ((x10_2).toNat * 7)).block, (ad397.add ((x10_2).toNat * 7)).off + 2, none⟩ = some (.int .i64 ((rd_T29 l0 x10_2).f2)) ∧ w'.cell? ⟨(ad397.add ((x10_2).toNat * 7)).block, (ad397.add ((x10_2).toNat * 7)).off + 3, none⟩ = some (.int .i64 ((rd_T29 l0 x10_2).f3)) ∧ w'.cell? ⟨(ad397.add ((x10_2).toNat * 7)).block, (ad397.add ((x10_2).toNat * 7)).off + 4, none⟩ = some (.int .i64 ((rd_T29 l0 x10_2).f4)) ∧ w'.cell? ⟨(ad397.add ((x10_2).toNat * 7)).block, (ad397.add ((x10_2).toNat * 7)).off + 5, none⟩ = some (.int .i64 ((rd_T29 l0 x10_2).f5)) ∧ w'.cell? ⟨(ad397.add ((x10_2).toNat * 7)).block, (ad397.add ((x10_2).toNat * 7)).off + 6, none⟩ = some (.int .i64 ((rd_T29 l0 x10_2).f6)) ∧ w'.cell? (ad397.add ((x10_2).toNat * 7)) = some (.int .i64 ((rd_T29 l0 x10_2).f0)) ∧ w'.cell? ⟨(ad397.add ((x10_2).toNat * 7)).block, (ad397.add ((x10_2).toNat * 7)).off + 1, none⟩ = some (.int .i64 ((rd_T29 l0 x10_2).f1)) ∧ w'.cell? ⟨(ad397.add ((x10_2).toNat * 7)).block, (ad397.add ((x10_2).toNat * 7)).off + 2, none⟩ = some (.int .i64 ((rd_T29 l0 x10_2).f2)) ∧ w'.cell? ⟨(ad397.add ((x10_2).toNat * 7)).block, (ad397.add ((x10_2).toNat * 7)).off + 3, none⟩ = some (.int .i64 ((rd_T29 l0 x10_2).f3)) ∧ w'.cell? ⟨(ad397.add ((x10_2).toNat * 7)).block, (ad397.add ((x10_2).toNat * 7)).off + 4, none⟩ = some (.int .i64 ((rd_T29 l0 x10_2).f4)) ∧ w'.cell? ⟨(ad397.add ((x10_2).toNat * 7)).block, (ad397.add ((x10_2).toNat * 7)).off + 5, none⟩ = some (.int .i64 ((rd_T29 l0 x10_2).f5)) ∧ w'.cell? ⟨(ad397.add ((x10_2).toNat * 7)).block, (ad397.add ((x10_2).toNat * 7)).off + 6, none⟩ = some (.int .i64 ((rd_T29 l0 x10_2).f6))) (ds := []) #[false, false, false, false, false, false, false, false, false, false, false, false, false, false, false, false, false, false] (by kernel_rfl) rfl rfl ⟨(blk_cell BK391.out 0).trans rfl, (blk_cell BK391.out 1).trans rfl, (hbC HB hw397_0), (hbC HB hw397_1), (hbC HB hw397_2), (hbC HB hw397_3), (hbC HB hw397_4), (hbC HB hw397_5), (hbC HB hw397_6), (hbC HB hw398_0), (hbC HB hw398_1), (hbC HB hw398_2), (hbC HB hw398_3), (hbC HB hw398_4), (hbC HB hw398_5), (hbC HB hw398_6)⟩ (fun hHeld => ?_); refine with_tabW dancestudioref24_Cut.tab12 dancestudioref24_Cut.bits12 (fun HT_ HW_ => ?_)
               generalize wc.drew = w40 at HO_9 BK391 HB hx397_0 hx397_1 hx397_2 hx397_3 hx397_4 hx397_5 hx397_6 hx398_0 hx398_1 hx398_2 hx398_3 hx398_4 hx398_5 hx398_6 hHeld ⊢
               refine puA 0 56 (bs 18 1) ?_
               refine puA 1 57 (bs 18 3) ?_
               refine puA 2 58 (bs 18 7) ?_
               refine puA 3 59 (bs 18 15) ?_
               refine puA 5 61 (bs 18 47) ?_
               refine tkA 4 60 (bs 18 63) hHeld ?_
               refine tkA 6 62 (bs 18 127) hHeld ?_
               refine puA 7 63 (bs 18 255) ?_
               refine puA 8 64 (bs 18 511) ?_
               refine puA 9 65 (bs 18 1023) ?_
               refine puA 10 66 (bs 18 2047) ?_
               refine puA 11 67 (bs 18 4095) ?_
               refine puA 14 70 (bs 18 20479) ?_
               refine tkA 12 68 (bs 18 24575) hHeld ?_
               refine tkA 15 71 (bs 18 57343) hHeld ?_
               refine one_ (i := 13) (N := some 69) (bs 18 65535) rfl rfl (one_of HT_.out (by kernel_rfl)) (by decide) (fun K hK => ?_)
               refine goes_ Try.func57 (by kernel_rfl) rfl #[.agg #[.int .i64 ((rd_T29 l0 x10_2).f0), .int .i64 ((rd_T29 l0 x10_2).f1), .int .i64 ((rd_T29 l0 x10_2).f2), .int .i64 ((rd_T29 l0 x10_2).f3), .int .i64 ((rd_T29 l0 x10_2).f4), .int .i64 ((rd_T29 l0 x10_2).f5), .int .i64 ((rd_T29 l0 x10_2).f6)]] (by rfl) rfl rfl (by (try simp only [List.map_toArray, List.map_cons, List.map_nil]); first | done | rfl | (simp only [List.length_drop, List.length_take]; rfl)) ?_
               with_reducible refine (dancestudioref24_end.calls ((rd_T29 l0 x10_2).f0) ((rd_T29 l0 x10_2).f1) ((rd_T29 l0 x10_2).f2) ((rd_T29 l0 x10_2).f3) ((rd_T29 l0 x10_2).f4) ((rd_T29 l0 x10_2).f5) ((rd_T29 l0 x10_2).f6) t399 _ A30.out).mono ?_
               rintro e w41 ⟨rfl, hb⟩
               refine ⟨_, rfl, ?_⟩
               have n0_ := Aside0.mk (Kd.R_below (Kd.rU HO_9.out) hb)
               have n1_ := Aside0.mk (blk_below (bU BK391.out) hb)
               have n2_ := Aside0.mk (below_step (hU HB.out) hb)
               clear HO_9
               clear BK391
               clear HB
               have HO_9 := n0_
               have BK391 := n1_
               have HB := n2_
               clear n0_ n1_ n2_
               (try clear hb)
               (try clear hb2)
               (try clear hk)
               (try clear hi)
               refine hK.out _ _ ⟨(blk_cell BK391.out 0).trans rfl, (blk_cell BK391.out 1).trans rfl, (hbC HB hw397_0), (hbC HB hw397_1), (hbC HB hw397_2), (hbC HB hw397_3), (hbC HB hw397_4), (hbC HB hw397_5), (hbC HB hw397_6), (hbC HB hw398_0), (hbC HB hw398_1), (hbC HB hw398_2), (hbC HB hw398_3), (hbC HB hw398_4), (hbC HB hw398_5), (hbC HB hw398_6)⟩ (fun hHeld => ?_)
               clear hK K
               refine nmA 69 ?_
               refine puA 16 72 (bs 18 131071) ?_
               refine puA 17 73 (bs 18 262143) ?_
               refine done_ (done_of HT_.out (by kernel_rfl)) ?_
               try go_wp2
               go_roundg kj15
               case measure => have := HJ5.out; have := HK2.out; have := HJ15.out; omega
               case rel => exact ⟨(x9_2), (wrap64 (x10_2 + 1)), (by first | rfl | (simp; done) | (simp [*]; done)), H', ⟨by have := HJ5.out; have := HK2.out; have := HJ15.out; omega⟩, ⟨by (with_reducible repeat (first | apply Kd.R_alloc | apply Kd.R_drewN | apply Kd.R_drew)); exact HO_9.out⟩, ⟨by (with_reducible repeat (first | refine blk_drewN ?_ _ | refine blk_drew ?_ | refine blk_alloc ?_ _)); exact BK391.out⟩, ⟨hU HB.out⟩⟩
             ·rw [if_neg c29] at H
              have c29b0 : decide (a2_0 ≤ ((rd_T29 l0 x10_2).f2)) = false := decide_eq_false c29
              clear c29
              have H' := Aside0.mk H
              clear H
              try go_wp2
              have n0_ := Aside0.mk (Kd.R_drew HO_9.out)
              have n1_ := Aside0.mk (blk_drew BK391.out)
              have n2_ := Aside0.mk (below_drew1 HB.out)
              clear HO_9
              clear BK391
              clear HB
              have HO_9 := n0_
              have BK391 := n1_
              have HB := n2_
              clear n0_ n1_ n2_
              have p397 : 0 ≤ (x10_2 : Int) := of_decide_eq_true (by first | (with_reducible assumption) | assumption)
              have q397 : x10_2 < (l0.length : Int) := of_decide_eq_true (by first | (with_reducible assumption) | assumption)
              obtain ⟨ad397, e397, hx397_0, hx397_1, hx397_2, hx397_3, hx397_4, hx397_5, hx397_6⟩ := at_T29 HR0.out x10_2 p397 q397
              have hw397_6 := hx397_6
              have hw397_5 := hx397_5
              have hw397_4 := hx397_4
              have hw397_3 := hx397_3
              have hw397_2 := hx397_2
              have hw397_1 := hx397_1
              have hw397_0 := hx397_0
              cases e397
              replace hx397_0 := hbC HB hx397_0
              replace hx397_1 := hbC HB hx397_1
              replace hx397_2 := hbC HB hx397_2
              replace hx397_3 := hbC HB hx397_3
              replace hx397_4 := hbC HB hx397_4
              replace hx397_5 := hbC HB hx397_5
              replace hx397_6 := hbC HB hx397_6
              replace p397 := eq_true p397
              replace q397 := eq_true q397
              refine start_ (n := 18) (S := fun w' => w'.cell? ⟨gb391, 0, none⟩ = some (.int .i64 a2_0) ∧ w'.cell? ⟨gb391, 1, none⟩ = some (.int .i64 a2_1) ∧ w'.cell? (ad397.add ((x10_2).toNat * 7)) = some (.int .i64 ((rd_T29 l0 x10_2).f0)) ∧ w'.cell? ⟨(ad397.add ((x10_2).toNat * 7)).block, (ad397.add ((x10_2).toNat * 7)).off + 1, none⟩ = some (.int .i64 ((rd_T29 l0 x10_2).f1)) ∧ w'.cell? ⟨(ad397.add ((x10_2).toNat * 7)).block, (ad397.add ((x10_2).toNat * 7)).off + 2, none⟩ = some (.int .i64 ((rd_T29 l0 x10_2).f2)) ∧ w'.cell? ⟨(ad397.add ((x10_2).toNat * 7)).block, (ad397.add ((x10_2).toNat * 7)).off + 3, none⟩ = some (.int .i64 ((rd_T29 l0 x10_2).f3)) ∧ w'.cell? ⟨(ad397.add ((x10_2).toNat * 7)).block, (ad397.add ((x10_2).toNat * 7)).off + 4, none⟩ = some (.int .i64 ((rd_T29 l0 x10_2).f4)) ∧ w'.cell? ⟨(ad397.add ((x10_2).toNat * 7)).block, (ad397.add ((x10_2).toNat * 7)).off + 5, none⟩ = some (.int .i64 ((rd_T29 l0 x10_2).f5)) ∧ w'.cell? ⟨(ad397.add ((x10_2).toNat * 7)).block, (ad397.add ((x10_2).toNat * 7)).off + 6, none⟩ = some (.int .i64 ((rd_T29 l0 x10_2).f6))) (ds := []) #[false, false, false, false, false, false, false, false, false, false, false, false, false, false, false, false, false, false] (by kernel_rfl) rfl rfl ⟨(blk_cell BK391.out 0).trans rfl, (blk_cell BK391.out 1).trans rfl, (hbC HB hw397_0), (hbC HB hw397_1), (hbC HB hw397_2), (hbC HB hw397_3), (hbC HB hw397_4), (hbC HB hw397_5), (hbC HB hw397_6)⟩ (fun hHeld => ?_); refine with_tabW dancestudioref24_Cut.tab12 dancestudioref24_Cut.bits12 (fun HT_ HW_ => ?_)
              generalize wc.drew = w42 at HO_9 BK391 HB hx397_0 hx397_1 hx397_2 hx397_3 hx397_4 hx397_5 hx397_6 hHeld ⊢
              refine puA 0 56 (bs 18 1) ?_
              refine puA 1 57 (bs 18 3) ?_
              refine puA 2 58 (bs 18 7) ?_
              refine puA 3 59 (bs 18 15) ?_
              refine puA 5 61 (bs 18 47) ?_
              refine tkA 4 60 (bs 18 63) hHeld ?_
              refine tkA 6 62 (bs 18 127) hHeld ?_
              refine puA 7 63 (bs 18 255) ?_
              refine puA 8 64 (bs 18 511) ?_
              refine skA 9 65 (bs 18 1023) ?_
              refine skA 10 66 (bs 18 2047) ?_
              refine skA 11 67 (bs 18 4095) ?_
              refine skA 12 68 (bs 18 8191) ?_
              refine skA 13 69 (bs 18 16383) ?_
              refine skA 14 70 (bs 18 32767) ?_
              refine skA 15 71 (bs 18 65535) ?_
              refine skA 16 72 (bs 18 131071) ?_
              refine puA 17 73 (bs 18 262143) ?_
              refine done_ (done_of HT_.out (by kernel_rfl)) ?_
              try go_wp2
              go_roundg kj15
              case measure => have := HJ5.out; have := HK2.out; have := HJ15.out; omega
              case rel => exact ⟨(x9_2), (wrap64 (x10_2 + 1)), (by first | rfl | (simp; done) | (simp [*]; done)), H', ⟨by have := HJ5.out; have := HK2.out; have := HJ15.out; omega⟩, ⟨by (with_reducible repeat (first | apply Kd.R_alloc | apply Kd.R_drewN | apply Kd.R_drew)); exact HO_9.out⟩, ⟨by (with_reducible repeat (first | refine blk_drewN ?_ _ | refine blk_drew ?_ | refine blk_alloc ?_ _)); exact BK391.out⟩, ⟨hU HB.out⟩⟩
            ·rw [if_neg c28] at H
             exact absurd H (by simp)
           ·rw [if_neg c27] at H
            exact absurd H (by simp)
       ·rw [if_neg c15] at H
        have c15b0 : decide (x10_2 < (l0.length : Int)) = false := decide_eq_false c15
        clear c15
        simp only [Option.some.injEq, Prod.mk.injEq] at H
        obtain ⟨rfl, rfl⟩ := H
        go_wp2
        go_ret2
        exact ⟨_, by first | rfl | (simp [errW_none, errW_some] <;> rfl) | (simp [*, errW_none, errW_some] <;> rfl), by (with_reducible repeat (first | apply Kd.R_alloc | apply Kd.R_drewN | apply Kd.R_drew)); exact HO_9.out, hU HB.out⟩
 ·rw [if_neg c5] at H
  have c5b0 : (t392 == 0) = false := beq_eq_false_iff_ne.mpr c5
  have c5b1 : (t392 != 0) = true := bne_iff_ne.mpr c5
  simp only [Option.some.injEq, Prod.mk.injEq] at H
  obtain ⟨rfl, rfl⟩ := H
  go_enter Try.func35, Try.ntmps35
  go_wp2_with (first | ((with_reducible refine gate_dst (N := 5) rfl ?_); refine box_event ?hg (N := 5) ?hd (cs := #[.int .i64 a2_0, .int .i64 a2_1]) (t := 45) ?hr ?_; (case hd => rfl); (case hg => rfl); (case hr => first | (go_simp; done) | (go_simp; rfl)); intro gb391 hg w43 hbox hb; have n0_ := Aside0.mk (below_step (hU HB.out) hb); have n1_ := Aside0.mk (hbox); have n2_ := Aside0.mk ((by rw [hg]; exact (below_size (hU HB.out)) : w.heap.size ≤ gb391)); have n3_ := Aside0.mk ((by rw [hg]; exact (below_size (hU HB.out)) : w.heap.size ≤ gb391)); clear HB; have HB := n0_; have BK391 := n1_; have GW391 := n2_; have GE391 := n3_; clear n0_ n1_ n2_ n3_; clear hb hbox hg) | ((with_reducible refine gate_callee (f := 21) rfl ?_); refine goesL_ (some 14) rfl rfl Try.func21 (by kernel_rfl) rfl #[.slice A0 l0.length c0, .int .i64 a1] rfl (by (try simp only [List.map_toArray, List.map_cons, List.map_nil]); first | done | rfl | (simp only [List.length_drop, List.length_take]; rfl)) ?_; (with_reducible refine (dancestudioref24_Check.calls k _ _ l0 a1 t392 _ ?side1 ?side2 A4.out).mono ?_); (case side1 => repeat (first | exact (Kd.C_below HR0.out HB.out) | (with_reducible refine Kd.C_alloc ?_ _) | (with_reducible refine Kd.C_drewN ?_ _) | (with_reducible refine Kd.C_drew ?_))); (case side2 => exact HC0.out); rintro e w44 ⟨rfl, hb⟩; refine ⟨_, rfl, ?_⟩; have n0_ := Aside0.mk (blk_below (bU BK391.out) hb); have n1_ := Aside0.mk (below_step (hU HB.out) hb); clear BK391; clear HB; have BK391 := n0_; have HB := n1_; clear n0_ n1_; (try clear hb); (try clear hb2); (try clear hk); (try clear hi)))
  go_ret2
  exact ⟨_, by first | rfl | (simp [errW_none, errW_some] <;> rfl) | (simp [*, errW_none, errW_some] <;> rfl), by first | exact Kd.R_nil _ _ _ _ _ | exact Kd.N_nil _ _ _ _ _ | exact Kd.V_nil _ _ _ _ _ | exact Kd.Q_nil _ _ _ _ _ | exact Kd.S_nil _ _ _ _ _, hU HB.out⟩

end Go.Proofs.Ytdilndbanhianaa.P

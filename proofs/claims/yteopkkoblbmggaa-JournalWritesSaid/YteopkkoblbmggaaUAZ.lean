/- Texts of this claim in one: VP79; no condition. -/
import Derived.Test.YteopkkoblbmggaaUAD
import Derived.Test.YteopkkoblbmggaaUAH
import Derived.Test.YteopkkoblbmggaaUAV
import Derived.Test.YteopkkoblbmggaaUAX
section
namespace Go.Proofs.Yteopkkoblbmggaa.P
open Go.RowKit Go.Proofs.YteopkkoblbmggaaW.PrintWords Go.Proofs.YteopkkoblbmggaaW.PrintLast Go.Proofs.YteopkkoblbmggaaW.PrintMore
attribute [local go_sem] max2_int min2_int max_two min_two max_three min_three max_four min_four
set_option linter.unusedVariables false
set_option linter.unusedSimpArgs false
attribute [local go_sem high] eqA26
/-! ### dancestudioref58_Compact: function 47 -/
mutual
def dancestudioref58_Compact.l0 : Nat → List Int → Int → Int → List (S30) → Option (List Int × Int)
 | 0, _, _, _, _ => none
 | k + 1, x5, x6, x1452000, x1452001 => if x6 < (x1452001.length : Int) then (dancestudioref58_Compact.l1 k x5 x6 true true 0 x1452000 x1452001) else (some (x5, 0))
def dancestudioref58_Compact.l1 : Nat → List Int → Int → Bool → Bool → Int → Int → List (S30) → Option (List Int × Int)
 | 0, _, _, _, _, _, _, _ => none
 | k + 1, x5, x6, x7, x8, x9, x1452000, x1452001 => if x9 < (x1452001.length : Int) then (if 0 ≤ x9 then (if 0 ≤ x6 then (if x6 < (x1452001.length : Int) then (if (((rd_T30 x1452001 x9).f2.f0) == ((rd_T30 x1452001 x6).f2.f0) && (((rd_T30 x1452001 x9).f2.f1) == ((rd_T30 x1452001 x6).f2.f1))) = true then (if x7 = true then (if x8 = true then (dancestudioref58_Compact.l1 k x5 x6 (decide (x9 ≥ x6)) (decide (x9 ≤ x6)) (wrap64 (x9 + 1)) x1452000 x1452001) else (dancestudioref58_Compact.l1 k x5 x6 (decide (x9 ≥ x6)) false (wrap64 (x9 + 1)) x1452000 x1452001)) else (if x8 = true then (dancestudioref58_Compact.l1 k x5 x6 false (decide (x9 ≤ x6)) (wrap64 (x9 + 1)) x1452000 x1452001) else (dancestudioref58_Compact.l1 k x5 x6 false false (wrap64 (x9 + 1)) x1452000 x1452001))) else (dancestudioref58_Compact.l1 k x5 x6 x7 x8 (wrap64 (x9 + 1)) x1452000 x1452001)) else (none)) else (none)) else (none)) else (if x7 = true then (if 0 ≤ x6 then (if x6 < (x1452001.length : Int) then ((dancestudioref58_frame.f k ((rd_T30 x1452001 x6).f0.f0) ((rd_T30 x1452001 x6).f0.f1) ((rd_T30 x1452001 x6).f1) ((rd_T30 x1452001 x6).f2.f0) ((rd_T30 x1452001 x6).f2.f1) ((rd_T30 x1452001 x6).f3) ((rd_T30 x1452001 x6).f4.f0) ((rd_T30 x1452001 x6).f4.f1) ((rd_T30 x1452001 x6).f4.f2) ((rd_T30 x1452001 x6).f4.f3) ((rd_T30 x1452001 x6).f4.f4) ((rd_T30 x1452001 x6).f4.f5) ((rd_T30 x1452001 x6).f4.f6)).bind fun t1456 => (if x5.length + t1456.length < 140737488355328 then (dancestudioref58_Compact.l0 k (x5 ++ t1456) (wrap64 (x6 + 1)) x1452000 x1452001) else (none))) else (none)) else (none)) else (if x8 = true then (if 0 ≤ x6 then (if x6 < (x1452001.length : Int) then ((dancestudioref58_frame.f k ((rd_T30 x1452001 x6).f0.f0) ((rd_T30 x1452001 x6).f0.f1) ((rd_T30 x1452001 x6).f1) ((rd_T30 x1452001 x6).f2.f0) ((rd_T30 x1452001 x6).f2.f1) ((rd_T30 x1452001 x6).f3) ((rd_T30 x1452001 x6).f4.f0) ((rd_T30 x1452001 x6).f4.f1) ((rd_T30 x1452001 x6).f4.f2) ((rd_T30 x1452001 x6).f4.f3) ((rd_T30 x1452001 x6).f4.f4) ((rd_T30 x1452001 x6).f4.f5) ((rd_T30 x1452001 x6).f4.f6)).bind fun t1463 => (if x5.length + t1463.length < 140737488355328 then (dancestudioref58_Compact.l0 k (x5 ++ t1463) (wrap64 (x6 + 1)) x1452000 x1452001) else (none))) else (none)) else (none)) else (dancestudioref58_Compact.l0 k x5 (wrap64 (x6 + 1)) x1452000 x1452001)))
end
def dancestudioref58_Compact.f (k : Nat) (a0_0 : Int) (l0_1 : List (S30)) : Option (List Int × Int) := (dancestudioref57_Check.f k a0_0 l0_1).bind fun t1452 => (if t1452 = 0 then (dancestudioref58_Compact.l0 k ([] : List Int) 0 a0_0 l0_1) else (some (([] : List Int), t1452)))
theorem dancestudioref58_Compact.mono_l : ∀ k, (∀ y0 y1 y2 y3, LeO (dancestudioref58_Compact.l0 k y0 y1 y2 y3) (dancestudioref58_Compact.l0 (k + 1) y0 y1 y2 y3)) ∧ (∀ y0 y1 y2 y3 y4 y5 y6, LeO (dancestudioref58_Compact.l1 k y0 y1 y2 y3 y4 y5 y6) (dancestudioref58_Compact.l1 (k + 1) y0 y1 y2 y3 y4 y5 y6))
 | 0 => ⟨fun _ _ _ _ r h => by simp [dancestudioref58_Compact.l0] at h, fun _ _ _ _ _ _ _ r h => by simp [dancestudioref58_Compact.l1] at h⟩
 | k + 1 => by
  obtain ⟨ih0, ih1⟩ := dancestudioref58_Compact.mono_l k
  refine ⟨?_, ?_⟩
  ·intro y0 y1 y2 y3
   unfold dancestudioref58_Compact.l0
   repeat' first
   | (with_reducible exact ih0 _ _ _ _)
   | (with_reducible exact ih1 _ _ _ _ _ _ _)
   | (with_reducible exact dancestudioref57_Check.mono _ _ _)
   | (with_reducible exact dancestudioref58_frame.mono _ _ _ _ _ _ _ _ _ _ _ _ _ _)
   | (with_reducible exact LeO.refl _)
   | (with_reducible exact LeO.none _)
   | (with_reducible refine LeO.ite ?_ ?_)
   | (with_reducible refine LeO.bind ?_ (fun _ => ?_))
   | exact ih0 _ _ _ _
   | exact ih1 _ _ _ _ _ _ _
   | exact dancestudioref57_Check.mono _ _ _
   | exact dancestudioref58_frame.mono _ _ _ _ _ _ _ _ _ _ _ _ _ _
   | exact LeO.none _
   | refine LeO.ite ?_ ?_
   | refine LeO.bind ?_ (fun _ => ?_)
  ·intro y0 y1 y2 y3 y4 y5 y6
   unfold dancestudioref58_Compact.l1
   repeat' first
   | (with_reducible exact ih0 _ _ _ _)
   | (with_reducible exact ih1 _ _ _ _ _ _ _)
   | (with_reducible exact dancestudioref57_Check.mono _ _ _)
   | (with_reducible exact dancestudioref58_frame.mono _ _ _ _ _ _ _ _ _ _ _ _ _ _)
   | (with_reducible exact LeO.refl _)
   | (with_reducible exact LeO.none _)
   | (with_reducible refine LeO.ite ?_ ?_)
   | (with_reducible refine LeO.bind ?_ (fun _ => ?_))
   | exact ih0 _ _ _ _
   | exact ih1 _ _ _ _ _ _ _
   | exact dancestudioref57_Check.mono _ _ _
   | exact dancestudioref58_frame.mono _ _ _ _ _ _ _ _ _ _ _ _ _ _
   | exact LeO.none _
   | refine LeO.ite ?_ ?_
   | refine LeO.bind ?_ (fun _ => ?_)
theorem dancestudioref58_Compact.mono : ∀ a0 a1 k, LeO (dancestudioref58_Compact.f k a0 a1) (dancestudioref58_Compact.f (k + 1) a0 a1) := by
 intro a0 a1 k
 obtain ⟨ih0, ih1⟩ := dancestudioref58_Compact.mono_l k
 unfold dancestudioref58_Compact.f
 repeat' first
   | (with_reducible exact ih0 _ _ _ _)
   | (with_reducible exact ih1 _ _ _ _ _ _ _)
   | (with_reducible exact dancestudioref57_Check.mono _ _ _)
   | (with_reducible exact dancestudioref58_frame.mono _ _ _ _ _ _ _ _ _ _ _ _ _ _)
   | (with_reducible exact LeO.refl _)
   | (with_reducible exact LeO.none _)
   | (with_reducible refine LeO.ite ?_ ?_)
   | (with_reducible refine LeO.bind ?_ (fun _ => ?_))
   | exact ih0 _ _ _ _
   | exact ih1 _ _ _ _ _ _ _
   | exact dancestudioref57_Check.mono _ _ _
   | exact dancestudioref58_frame.mono _ _ _ _ _ _ _ _ _ _ _ _ _ _
   | exact LeO.none _
   | refine LeO.ite ?_ ?_
   | refine LeO.bind ?_ (fun _ => ?_)
set_option maxHeartbeats 8000000 in
set_option maxRecDepth 100000 in
theorem dancestudioref58_Compact.calls (k : Nat) (a0_0 : Int) (A0_1 : Option Addr) (c0_1 : Nat) (l0_1 : List (S30)) (r1 : List Int) (r2 : Int) (w : World) (hr0_1 : Kd.C k30 w A0_1 l0_1.length l0_1) (hc0_1 : l0_1.length ≤ c0_1) (h : dancestudioref58_Compact.f k a0_0 l0_1 = some (r1, r2)) :
  Calls Try.prog 47 #[.agg #[.int .i64 a0_0, .slice A0_1 l0_1.length c0_1]] w fun e w' => ∃ v0_ : Value, e = .returned (.tuple #[v0_, .int .i64 r2]) ∧ Kd.R (Kd.int .u8) 5 w' w.heap.size (fun _ => True) v0_ r1 ∧ Below w.heap.size w w' := by
 have hu24 := Try.underlying24
 have hu26 := Try.underlying26
 have hu30 := Try.underlying30
 have HR0_1 := Aside0.mk hr0_1
 have HC0_1 := Aside0.mk hc0_1
 clear hr0_1 hc0_1
 have HB := Aside0.mk (Below.refl w.heap.size w)
 have H : ((dancestudioref57_Check.f k a0_0 l0_1).bind fun t1452 => (if t1452 = 0 then (dancestudioref58_Compact.l0 k ([] : List Int) 0 a0_0 l0_1) else (some (([] : List Int), t1452)))) = some (r1, r2) := h
 clear h
 replace H := Option.bind_eq_some_iff.mp H
 obtain ⟨t1452, A20, H⟩ := H
 replace H : (if t1452 = 0 then (dancestudioref58_Compact.l0 k ([] : List Int) 0 a0_0 l0_1) else (some (([] : List Int), t1452))) = some (r1, r2) := H
 have A2 := Aside0.mk A20
 clear A20
 by_cases c3 : t1452 = 0
 ·rw [if_pos c3] at H
  have c3b0 : (t1452 == 0) = true := beq_iff_eq.mpr c3
  have c3b1 : (t1452 != 0) = false := bne_eq_false_iff_eq.mpr c3
  clear c3
  have H' := Aside0.mk H
  clear H
  go_enter Try.func47, Try.ntmps47
  go_wp2_with (first | ((with_reducible refine gate_dst (N := 1) rfl ?_); refine box_event ?hg (N := 1) ?hd (cs := #[.int .i64 a0_0, .slice A0_1 l0_1.length c0_1]) (t := 24) ?hr ?_; (case hd => rfl); (case hg => rfl); (case hr => first | (go_simp; done) | (go_simp; rfl)); intro gb1451 hg w4 hbox hb; have n0_ := Aside0.mk (below_step (hU HB.out) hb); have n1_ := Aside0.mk (hbox); have n2_ := Aside0.mk ((by rw [hg]; exact (below_size (hU HB.out)) : w.heap.size ≤ gb1451)); have n3_ := Aside0.mk ((by rw [hg]; exact (below_size (hU HB.out)) : w.heap.size ≤ gb1451)); clear HB; have HB := n0_; have BK1451 := n1_; have GW1451 := n2_; have GE1451 := n3_; clear n0_ n1_ n2_ n3_; clear hb hbox hg; have hcz5_0 := blk_cell BK1451.out; have hfz5_0 := blk_frozen BK1451.out) | (go_at_call 34; (with_reducible refine (dancestudioref57_Check.calls k a0_0 _ _ l0_1 t1452 _ ?side1 ?side2 A2.out).mono ?_); (case side1 => repeat (first | exact (Kd.C_below HR0_1.out HB.out) | (with_reducible refine Kd.C_alloc ?_ _) | (with_reducible refine Kd.C_drewN ?_ _) | (with_reducible refine Kd.C_drew ?_))); (case side2 => exact HC0_1.out); rintro e w6 ⟨rfl, hb⟩; replace BK1451 := Aside0.mk (blk_below (bU BK1451.out) hb); replace HB := Aside0.mk (below_step (hU HB.out) hb); (try clear hb); (try clear hb2); (try clear hk); (try clear hi)))
  repeat (go_quiet (first | ((with_reducible refine gate_dst (N := 1) rfl ?_); refine box_event ?hg (N := 1) ?hd (cs := #[.int .i64 a0_0, .slice A0_1 l0_1.length c0_1]) (t := 24) ?hr ?_; (case hd => rfl); (case hg => rfl); (case hr => first | (go_simp; done) | (go_simp; rfl)); intro gb1451 hg w4 hbox hb; have n0_ := Aside0.mk (below_step (hU HB.out) hb); have n1_ := Aside0.mk (hbox); have n2_ := Aside0.mk ((by rw [hg]; exact (below_size (hU HB.out)) : w.heap.size ≤ gb1451)); have n3_ := Aside0.mk ((by rw [hg]; exact (below_size (hU HB.out)) : w.heap.size ≤ gb1451)); clear HB; have HB := n0_; have BK1451 := n1_; have GW1451 := n2_; have GE1451 := n3_; clear n0_ n1_ n2_ n3_; clear hb hbox hg; have hcz5_0 := blk_cell BK1451.out; have hfz5_0 := blk_frozen BK1451.out) | (go_at_call 34; (with_reducible refine (dancestudioref57_Check.calls k a0_0 _ _ l0_1 t1452 _ ?side1 ?side2 A2.out).mono ?_); (case side1 => repeat (first | exact (Kd.C_below HR0_1.out HB.out) | (with_reducible refine Kd.C_alloc ?_ _) | (with_reducible refine Kd.C_drewN ?_ _) | (with_reducible refine Kd.C_drew ?_))); (case side2 => exact HC0_1.out); rintro e w6 ⟨rfl, hb⟩; replace BK1451 := Aside0.mk (blk_below (bU BK1451.out) hb); replace HB := Aside0.mk (below_step (hU HB.out) hb); (try clear hb); (try clear hb2); (try clear hk); (try clear hi))); try go_wp2_with (first | ((with_reducible refine gate_dst (N := 1) rfl ?_); refine box_event ?hg (N := 1) ?hd (cs := #[.int .i64 a0_0, .slice A0_1 l0_1.length c0_1]) (t := 24) ?hr ?_; (case hd => rfl); (case hg => rfl); (case hr => first | (go_simp; done) | (go_simp; rfl)); intro gb1451 hg w4 hbox hb; have n0_ := Aside0.mk (below_step (hU HB.out) hb); have n1_ := Aside0.mk (hbox); have n2_ := Aside0.mk ((by rw [hg]; exact (below_size (hU HB.out)) : w.heap.size ≤ gb1451)); have n3_ := Aside0.mk ((by rw [hg]; exact (below_size (hU HB.out)) : w.heap.size ≤ gb1451)); clear HB; have HB := n0_; have BK1451 := n1_; have GW1451 := n2_; have GE1451 := n3_; clear n0_ n1_ n2_ n3_; clear hb hbox hg; have hcz5_0 := blk_cell BK1451.out; have hfz5_0 := blk_frozen BK1451.out) | (go_at_call 34; (with_reducible refine (dancestudioref57_Check.calls k a0_0 _ _ l0_1 t1452 _ ?side1 ?side2 A2.out).mono ?_); (case side1 => repeat (first | exact (Kd.C_below HR0_1.out HB.out) | (with_reducible refine Kd.C_alloc ?_ _) | (with_reducible refine Kd.C_drewN ?_ _) | (with_reducible refine Kd.C_drew ?_))); (case side2 => exact HC0_1.out); rintro e w6 ⟨rfl, hb⟩; replace BK1451 := Aside0.mk (blk_below (bU BK1451.out) hb); replace HB := Aside0.mk (below_step (hU HB.out) hb); (try clear hb); (try clear hb2); (try clear hk); (try clear hi))))
  go_loopg [5, 6] k (fun kq v5 v6 w' => ∃ (x5_1 : List Int) (x6_1 : Int), v6 = .int .i64 x6_1 ∧ Aside0 (dancestudioref58_Compact.l0 kq x5_1 x6_1 a0_0 l0_1 = some (r1, r2)) ∧ Aside0 (kq ≤ k) ∧ Aside0 (Kd.R (Kd.int .u8) 5 w' w.heap.size (fun _ => True) v5 x5_1) ∧ Aside0 (w'.heap[gb1451]? = some (.cells #[.int .i64 a0_0, (.slice A0_1 l0_1.length c0_1)] 24 (0, 0))) ∧ Aside0 (Below w.heap.size w w'))
  case atStart => exact ⟨(([] : List Int)), (0), (by first | rfl | (simp; done) | (simp [*]; done)), H', ⟨Nat.le_refl _⟩, ⟨by first | exact Kd.R_nil _ _ _ _ _ | exact Kd.N_nil _ _ _ _ _ | exact Kd.V_nil _ _ _ _ _ | exact Kd.Q_nil _ _ _ _ _ | exact Kd.S_nil _ _ _ _ _⟩, ⟨by (with_reducible repeat (first | refine blk_drewN ?_ _ | refine blk_drew ?_ | refine blk_alloc ?_ _)); exact BK1451.out⟩, ⟨hU HB.out⟩⟩
  case round =>
   clear H'
   try clear p2
   try clear c3
   try clear c3b0
   try clear c3b1
   try clear c4
   try clear hcz5_0
   try clear hcz5_1
   try clear hfz5_0
   try clear hfz5_1
   obtain ⟨x5_1, x6_1, rfl, HA, HK1, HO_5, BK1451, HB⟩ := hrel
   cases gk with
   | zero => exact absurd HA.out (by simp [dancestudioref58_Compact.l0])
   | succ k1 =>
    have H := HA.out
    clear HA
    simp only [dancestudioref58_Compact.l0] at H
    by_cases c7 : x6_1 < (l0_1.length : Int)
    ·rw [if_pos c7] at H
     have c7b0 : decide (x6_1 < (l0_1.length : Int)) = true := decide_eq_true c7
     clear c7
     have H' := Aside0.mk H
     clear H
     have hcz8_0 := blk_cell BK1451.out
     have hfz8_0 := blk_frozen BK1451.out
     go_wp2
     repeat (go_quiet (fail); try go_wp2)
     go_loopg [7, 8, 9] k1 (fun kq v7 v8 v9 w' => ∃ (x7_2 : Bool) (x8_2 : Bool) (x9_2 : Int), v7 = .bool x7_2 ∧ v8 = .bool x8_2 ∧ v9 = .int .i64 x9_2 ∧ Aside0 (dancestudioref58_Compact.l1 kq x5_1 x6_1 x7_2 x8_2 x9_2 a0_0 l0_1 = some (r1, r2)) ∧ Aside0 (kq ≤ k1) ∧ Aside0 (Kd.R (Kd.int .u8) 5 w' w.heap.size (fun _ => True) u5 x5_1) ∧ Aside0 (w'.heap[gb1451]? = some (.cells #[.int .i64 a0_0, (.slice A0_1 l0_1.length c0_1)] 24 (0, 0))) ∧ Aside0 (Below w.heap.size w w'))
     case atStart => exact ⟨(true), (true), (0), (by first | rfl | (simp; done) | (simp [*]; done)), (by first | rfl | (simp; done) | (simp [*]; done)), (by first | rfl | (simp; done) | (simp [*]; done)), H', ⟨Nat.le_refl _⟩, ⟨by (with_reducible repeat (first | apply Kd.R_alloc | apply Kd.R_drewN | apply Kd.R_drew)); exact HO_5.out⟩, ⟨by (with_reducible repeat (first | refine blk_drewN ?_ _ | refine blk_drew ?_ | refine blk_alloc ?_ _)); exact BK1451.out⟩, ⟨hU HB.out⟩⟩
     case round =>
      clear H'
      try clear p2
      try clear c3
      try clear c3b0
      try clear c3b1
      try clear c4
      try clear c7
      try clear c7b0
      try clear hcz5_0
      try clear hcz5_1
      try clear hcz8_0
      try clear hcz8_1
      try clear hfz5_0
      try clear hfz5_1
      try clear hfz8_0
      try clear hfz8_1
      try clear p2
      obtain ⟨x7_2, x8_2, x9_2, rfl, rfl, rfl, HA, HK2, HO_5, BK1451, HB⟩ := hrel
      cases gk with
      | zero => exact absurd HA.out (by simp [dancestudioref58_Compact.l1])
      | succ k2 =>
       have H := HA.out
       clear HA
       simp only [dancestudioref58_Compact.l1] at H
       by_cases c9 : x9_2 < (l0_1.length : Int)
       ·rw [if_pos c9] at H
        have c9b0 : decide (x9_2 < (l0_1.length : Int)) = true := decide_eq_true c9
        clear c9
        by_cases c10 : 0 ≤ x9_2
        rotate_left
        ·rw [if_neg c10] at H
         exact absurd H (by simp)
        rw [if_pos c10] at H
        have c10b0 : decide (0 ≤ x9_2) = true := decide_eq_true c10
        clear c10
        by_cases c11 : 0 ≤ x6_1
        rotate_left
        ·rw [if_neg c11] at H
         exact absurd H (by simp)
        rw [if_pos c11] at H
        have c11b0 : decide (0 ≤ x6_1) = true := decide_eq_true c11
        clear c11
        by_cases c12 : x6_1 < (l0_1.length : Int)
        rotate_left
        ·rw [if_neg c12] at H
         exact absurd H (by simp)
        rw [if_pos c12] at H
        have c12b0 : decide (x6_1 < (l0_1.length : Int)) = true := decide_eq_true c12
        clear c12
        by_cases c13 : (((rd_T30 l0_1 x9_2).f2.f0) == ((rd_T30 l0_1 x6_1).f2.f0) && (((rd_T30 l0_1 x9_2).f2.f1) == ((rd_T30 l0_1 x6_1).f2.f1))) = true
        ·rw [if_pos c13] at H
         have c13b0 : (((rd_T30 l0_1 x9_2).f2.f0) == ((rd_T30 l0_1 x6_1).f2.f0) && (((rd_T30 l0_1 x9_2).f2.f1) == ((rd_T30 l0_1 x6_1).f2.f1))) = true := c13
         (try (have c13b1 : decide (((rd_T30 l0_1 x9_2).f2.f0) = ((rd_T30 l0_1 x6_1).f2.f0) && (((rd_T30 l0_1 x9_2).f2.f1) == ((rd_T30 l0_1 x6_1).f2.f1))) = true := by simpa using c13))
         (try (have c13b2 : (((rd_T30 l0_1 x9_2).f2.f0) == ((rd_T30 l0_1 x6_1).f2.f0) && (((rd_T30 l0_1 x9_2).f2.f1) == ((rd_T30 l0_1 x6_1).f2.f1))) = true := by simpa using c13))
         clear c13
         by_cases c14 : x7_2 = true
         ·subst c14
          rw [if_pos rfl] at H
          by_cases c15 : x8_2 = true
          ·subst c15
           have H1 : (dancestudioref58_Compact.l1 k2 x5_1 x6_1 (decide (x9_2 ≥ x6_1)) (decide (x9_2 ≤ x6_1)) (wrap64 (x9_2 + 1)) a0_0 l0_1) = some (r1, r2) := by rw [if_pos rfl] at H; exact H
           clear H
           have H := H1
           clear H1
           have H' := Aside0.mk H
           clear H
           have hcz16_0 := blk_cell BK1451.out
           have hfz16_0 := blk_frozen BK1451.out
           have p1453 : 0 ≤ (x9_2 : Int) := of_decide_eq_true (by first | (with_reducible assumption) | assumption)
           have q1453 : x9_2 < (l0_1.length : Int) := of_decide_eq_true (by first | (with_reducible assumption) | assumption)
           obtain ⟨ad1453, e1453, hx1453_0, hx1453_1, hx1453_2, hx1453_3, hx1453_4, hx1453_5, hx1453_6, hx1453_7, hx1453_8, hx1453_9, hx1453_10, hx1453_11, hx1453_12⟩ := at_T30 HR0_1.out x9_2 p1453 q1453
           cases e1453
           replace hx1453_0 := hbC HB hx1453_0
           replace hx1453_1 := hbC HB hx1453_1
           replace hx1453_2 := hbC HB hx1453_2
           replace hx1453_3 := hbC HB hx1453_3
           replace hx1453_4 := hbC HB hx1453_4
           replace hx1453_5 := hbC HB hx1453_5
           replace hx1453_6 := hbC HB hx1453_6
           replace hx1453_7 := hbC HB hx1453_7
           replace hx1453_8 := hbC HB hx1453_8
           replace hx1453_9 := hbC HB hx1453_9
           replace hx1453_10 := hbC HB hx1453_10
           replace hx1453_11 := hbC HB hx1453_11
           replace hx1453_12 := hbC HB hx1453_12
           replace p1453 := eq_true p1453
           replace q1453 := eq_true q1453
           have p1454 : 0 ≤ (x6_1 : Int) := of_decide_eq_true (by first | (with_reducible assumption) | assumption)
           have q1454 : x6_1 < (l0_1.length : Int) := of_decide_eq_true (by first | (with_reducible assumption) | assumption)
           obtain ⟨ad1454, e1454, hx1454_0, hx1454_1, hx1454_2, hx1454_3, hx1454_4, hx1454_5, hx1454_6, hx1454_7, hx1454_8, hx1454_9, hx1454_10, hx1454_11, hx1454_12⟩ := at_T30 HR0_1.out x6_1 p1454 q1454
           obtain rfl : ad1453 = ad1454 := (by injection e1454)
           replace hx1454_0 := hbC HB hx1454_0
           replace hx1454_1 := hbC HB hx1454_1
           replace hx1454_2 := hbC HB hx1454_2
           replace hx1454_3 := hbC HB hx1454_3
           replace hx1454_4 := hbC HB hx1454_4
           replace hx1454_5 := hbC HB hx1454_5
           replace hx1454_6 := hbC HB hx1454_6
           replace hx1454_7 := hbC HB hx1454_7
           replace hx1454_8 := hbC HB hx1454_8
           replace hx1454_9 := hbC HB hx1454_9
           replace hx1454_10 := hbC HB hx1454_10
           replace hx1454_11 := hbC HB hx1454_11
           replace hx1454_12 := hbC HB hx1454_12
           replace p1454 := eq_true p1454
           replace q1454 := eq_true q1454
           go_wp2
           repeat (go_quiet (fail); try go_wp2)
           go_roundg k2
           case measure => have := HK1.out; have := HK2.out; omega
           case rel => exact ⟨(decide (x9_2 ≥ x6_1)), (decide (x9_2 ≤ x6_1)), (wrap64 (x9_2 + 1)), (by first | rfl | (simp; done) | (simp [*]; done)), (by first | rfl | (simp; done) | (simp [*]; done)), (by first | rfl | (simp; done) | (simp [*]; done)), H', ⟨by have := HK1.out; have := HK2.out; omega⟩, ⟨by (with_reducible repeat (first | apply Kd.R_alloc | apply Kd.R_drewN | apply Kd.R_drew)); exact HO_5.out⟩, ⟨by (with_reducible repeat (first | refine blk_drewN ?_ _ | refine blk_drew ?_ | refine blk_alloc ?_ _)); exact BK1451.out⟩, ⟨hU HB.out⟩⟩
          ·replace c15 := Bool.eq_false_iff.mpr c15
           subst c15
           have H1 : (dancestudioref58_Compact.l1 k2 x5_1 x6_1 (decide (x9_2 ≥ x6_1)) false (wrap64 (x9_2 + 1)) a0_0 l0_1) = some (r1, r2) := by rw [if_neg (show ¬ (false = true) by decide)] at H; exact H
           clear H
           have H := H1
           clear H1
           have H' := Aside0.mk H
           clear H
           have hcz17_0 := blk_cell BK1451.out
           have hfz17_0 := blk_frozen BK1451.out
           have p1453 : 0 ≤ (x9_2 : Int) := of_decide_eq_true (by first | (with_reducible assumption) | assumption)
           have q1453 : x9_2 < (l0_1.length : Int) := of_decide_eq_true (by first | (with_reducible assumption) | assumption)
           obtain ⟨ad1453, e1453, hx1453_0, hx1453_1, hx1453_2, hx1453_3, hx1453_4, hx1453_5, hx1453_6, hx1453_7, hx1453_8, hx1453_9, hx1453_10, hx1453_11, hx1453_12⟩ := at_T30 HR0_1.out x9_2 p1453 q1453
           cases e1453
           replace hx1453_0 := hbC HB hx1453_0
           replace hx1453_1 := hbC HB hx1453_1
           replace hx1453_2 := hbC HB hx1453_2
           replace hx1453_3 := hbC HB hx1453_3
           replace hx1453_4 := hbC HB hx1453_4
           replace hx1453_5 := hbC HB hx1453_5
           replace hx1453_6 := hbC HB hx1453_6
           replace hx1453_7 := hbC HB hx1453_7
           replace hx1453_8 := hbC HB hx1453_8
           replace hx1453_9 := hbC HB hx1453_9
           replace hx1453_10 := hbC HB hx1453_10
           replace hx1453_11 := hbC HB hx1453_11
           replace hx1453_12 := hbC HB hx1453_12
           replace p1453 := eq_true p1453
           replace q1453 := eq_true q1453
           have p1454 : 0 ≤ (x6_1 : Int) := of_decide_eq_true (by first | (with_reducible assumption) | assumption)
           have q1454 : x6_1 < (l0_1.length : Int) := of_decide_eq_true (by first | (with_reducible assumption) | assumption)
           obtain ⟨ad1454, e1454, hx1454_0, hx1454_1, hx1454_2, hx1454_3, hx1454_4, hx1454_5, hx1454_6, hx1454_7, hx1454_8, hx1454_9, hx1454_10, hx1454_11, hx1454_12⟩ := at_T30 HR0_1.out x6_1 p1454 q1454
           obtain rfl : ad1453 = ad1454 := (by injection e1454)
           replace hx1454_0 := hbC HB hx1454_0
           replace hx1454_1 := hbC HB hx1454_1
           replace hx1454_2 := hbC HB hx1454_2
           replace hx1454_3 := hbC HB hx1454_3
           replace hx1454_4 := hbC HB hx1454_4
           replace hx1454_5 := hbC HB hx1454_5
           replace hx1454_6 := hbC HB hx1454_6
           replace hx1454_7 := hbC HB hx1454_7
           replace hx1454_8 := hbC HB hx1454_8
           replace hx1454_9 := hbC HB hx1454_9
           replace hx1454_10 := hbC HB hx1454_10
           replace hx1454_11 := hbC HB hx1454_11
           replace hx1454_12 := hbC HB hx1454_12
           replace p1454 := eq_true p1454
           replace q1454 := eq_true q1454
           go_wp2
           repeat (go_quiet (fail); try go_wp2)
           go_roundg k2
           case measure => have := HK1.out; have := HK2.out; omega
           case rel => exact ⟨(decide (x9_2 ≥ x6_1)), (false), (wrap64 (x9_2 + 1)), (by first | rfl | (simp; done) | (simp [*]; done)), (by first | rfl | (simp; done) | (simp [*]; done)), (by first | rfl | (simp; done) | (simp [*]; done)), H', ⟨by have := HK1.out; have := HK2.out; omega⟩, ⟨by (with_reducible repeat (first | apply Kd.R_alloc | apply Kd.R_drewN | apply Kd.R_drew)); exact HO_5.out⟩, ⟨by (with_reducible repeat (first | refine blk_drewN ?_ _ | refine blk_drew ?_ | refine blk_alloc ?_ _)); exact BK1451.out⟩, ⟨hU HB.out⟩⟩
         ·replace c14 := Bool.eq_false_iff.mpr c14
          subst c14
          rw [if_neg (show ¬ (false = true) by decide)] at H
          by_cases c18 : x8_2 = true
          ·subst c18
           have H1 : (dancestudioref58_Compact.l1 k2 x5_1 x6_1 false (decide (x9_2 ≤ x6_1)) (wrap64 (x9_2 + 1)) a0_0 l0_1) = some (r1, r2) := by rw [if_pos rfl] at H; exact H
           clear H
           have H := H1
           clear H1
           have H' := Aside0.mk H
           clear H
           have hcz19_0 := blk_cell BK1451.out
           have hfz19_0 := blk_frozen BK1451.out
           have p1453 : 0 ≤ (x9_2 : Int) := of_decide_eq_true (by first | (with_reducible assumption) | assumption)
           have q1453 : x9_2 < (l0_1.length : Int) := of_decide_eq_true (by first | (with_reducible assumption) | assumption)
           obtain ⟨ad1453, e1453, hx1453_0, hx1453_1, hx1453_2, hx1453_3, hx1453_4, hx1453_5, hx1453_6, hx1453_7, hx1453_8, hx1453_9, hx1453_10, hx1453_11, hx1453_12⟩ := at_T30 HR0_1.out x9_2 p1453 q1453
           cases e1453
           replace hx1453_0 := hbC HB hx1453_0
           replace hx1453_1 := hbC HB hx1453_1
           replace hx1453_2 := hbC HB hx1453_2
           replace hx1453_3 := hbC HB hx1453_3
           replace hx1453_4 := hbC HB hx1453_4
           replace hx1453_5 := hbC HB hx1453_5
           replace hx1453_6 := hbC HB hx1453_6
           replace hx1453_7 := hbC HB hx1453_7
           replace hx1453_8 := hbC HB hx1453_8
           replace hx1453_9 := hbC HB hx1453_9
           replace hx1453_10 := hbC HB hx1453_10
           replace hx1453_11 := hbC HB hx1453_11
           replace hx1453_12 := hbC HB hx1453_12
           replace p1453 := eq_true p1453
           replace q1453 := eq_true q1453
           have p1454 : 0 ≤ (x6_1 : Int) := of_decide_eq_true (by first | (with_reducible assumption) | assumption)
           have q1454 : x6_1 < (l0_1.length : Int) := of_decide_eq_true (by first | (with_reducible assumption) | assumption)
           obtain ⟨ad1454, e1454, hx1454_0, hx1454_1, hx1454_2, hx1454_3, hx1454_4, hx1454_5, hx1454_6, hx1454_7, hx1454_8, hx1454_9, hx1454_10, hx1454_11, hx1454_12⟩ := at_T30 HR0_1.out x6_1 p1454 q1454
           obtain rfl : ad1453 = ad1454 := (by injection e1454)
           replace hx1454_0 := hbC HB hx1454_0
           replace hx1454_1 := hbC HB hx1454_1
           replace hx1454_2 := hbC HB hx1454_2
           replace hx1454_3 := hbC HB hx1454_3
           replace hx1454_4 := hbC HB hx1454_4
           replace hx1454_5 := hbC HB hx1454_5
           replace hx1454_6 := hbC HB hx1454_6
           replace hx1454_7 := hbC HB hx1454_7
           replace hx1454_8 := hbC HB hx1454_8
           replace hx1454_9 := hbC HB hx1454_9
           replace hx1454_10 := hbC HB hx1454_10
           replace hx1454_11 := hbC HB hx1454_11
           replace hx1454_12 := hbC HB hx1454_12
           replace p1454 := eq_true p1454
           replace q1454 := eq_true q1454
           go_wp2
           repeat (go_quiet (fail); try go_wp2)
           go_roundg k2
           case measure => have := HK1.out; have := HK2.out; omega
           case rel => exact ⟨(false), (decide (x9_2 ≤ x6_1)), (wrap64 (x9_2 + 1)), (by first | rfl | (simp; done) | (simp [*]; done)), (by first | rfl | (simp; done) | (simp [*]; done)), (by first | rfl | (simp; done) | (simp [*]; done)), H', ⟨by have := HK1.out; have := HK2.out; omega⟩, ⟨by (with_reducible repeat (first | apply Kd.R_alloc | apply Kd.R_drewN | apply Kd.R_drew)); exact HO_5.out⟩, ⟨by (with_reducible repeat (first | refine blk_drewN ?_ _ | refine blk_drew ?_ | refine blk_alloc ?_ _)); exact BK1451.out⟩, ⟨hU HB.out⟩⟩
          ·replace c18 := Bool.eq_false_iff.mpr c18
           subst c18
           have H1 : (dancestudioref58_Compact.l1 k2 x5_1 x6_1 false false (wrap64 (x9_2 + 1)) a0_0 l0_1) = some (r1, r2) := by rw [if_neg (show ¬ (false = true) by decide)] at H; exact H
           clear H
           have H := H1
           clear H1
           have H' := Aside0.mk H
           clear H
           have hcz20_0 := blk_cell BK1451.out
           have hfz20_0 := blk_frozen BK1451.out
           have p1453 : 0 ≤ (x9_2 : Int) := of_decide_eq_true (by first | (with_reducible assumption) | assumption)
           have q1453 : x9_2 < (l0_1.length : Int) := of_decide_eq_true (by first | (with_reducible assumption) | assumption)
           obtain ⟨ad1453, e1453, hx1453_0, hx1453_1, hx1453_2, hx1453_3, hx1453_4, hx1453_5, hx1453_6, hx1453_7, hx1453_8, hx1453_9, hx1453_10, hx1453_11, hx1453_12⟩ := at_T30 HR0_1.out x9_2 p1453 q1453
           cases e1453
           replace hx1453_0 := hbC HB hx1453_0
           replace hx1453_1 := hbC HB hx1453_1
           replace hx1453_2 := hbC HB hx1453_2
           replace hx1453_3 := hbC HB hx1453_3
           replace hx1453_4 := hbC HB hx1453_4
           replace hx1453_5 := hbC HB hx1453_5
           replace hx1453_6 := hbC HB hx1453_6
           replace hx1453_7 := hbC HB hx1453_7
           replace hx1453_8 := hbC HB hx1453_8
           replace hx1453_9 := hbC HB hx1453_9
           replace hx1453_10 := hbC HB hx1453_10
           replace hx1453_11 := hbC HB hx1453_11
           replace hx1453_12 := hbC HB hx1453_12
           replace p1453 := eq_true p1453
           replace q1453 := eq_true q1453
           have p1454 : 0 ≤ (x6_1 : Int) := of_decide_eq_true (by first | (with_reducible assumption) | assumption)
           have q1454 : x6_1 < (l0_1.length : Int) := of_decide_eq_true (by first | (with_reducible assumption) | assumption)
           obtain ⟨ad1454, e1454, hx1454_0, hx1454_1, hx1454_2, hx1454_3, hx1454_4, hx1454_5, hx1454_6, hx1454_7, hx1454_8, hx1454_9, hx1454_10, hx1454_11, hx1454_12⟩ := at_T30 HR0_1.out x6_1 p1454 q1454
           obtain rfl : ad1453 = ad1454 := (by injection e1454)
           replace hx1454_0 := hbC HB hx1454_0
           replace hx1454_1 := hbC HB hx1454_1
           replace hx1454_2 := hbC HB hx1454_2
           replace hx1454_3 := hbC HB hx1454_3
           replace hx1454_4 := hbC HB hx1454_4
           replace hx1454_5 := hbC HB hx1454_5
           replace hx1454_6 := hbC HB hx1454_6
           replace hx1454_7 := hbC HB hx1454_7
           replace hx1454_8 := hbC HB hx1454_8
           replace hx1454_9 := hbC HB hx1454_9
           replace hx1454_10 := hbC HB hx1454_10
           replace hx1454_11 := hbC HB hx1454_11
           replace hx1454_12 := hbC HB hx1454_12
           replace p1454 := eq_true p1454
           replace q1454 := eq_true q1454
           go_wp2
           repeat (go_quiet (fail); try go_wp2)
           go_roundg k2
           case measure => have := HK1.out; have := HK2.out; omega
           case rel => exact ⟨(false), (false), (wrap64 (x9_2 + 1)), (by first | rfl | (simp; done) | (simp [*]; done)), (by first | rfl | (simp; done) | (simp [*]; done)), (by first | rfl | (simp; done) | (simp [*]; done)), H', ⟨by have := HK1.out; have := HK2.out; omega⟩, ⟨by (with_reducible repeat (first | apply Kd.R_alloc | apply Kd.R_drewN | apply Kd.R_drew)); exact HO_5.out⟩, ⟨by (with_reducible repeat (first | refine blk_drewN ?_ _ | refine blk_drew ?_ | refine blk_alloc ?_ _)); exact BK1451.out⟩, ⟨hU HB.out⟩⟩
        ·rw [if_neg c13] at H
         have c13b0 : (((rd_T30 l0_1 x9_2).f2.f0) == ((rd_T30 l0_1 x6_1).f2.f0) && (((rd_T30 l0_1 x9_2).f2.f1) == ((rd_T30 l0_1 x6_1).f2.f1))) = false := by simpa using c13
         (try (have c13b1 : decide (((rd_T30 l0_1 x9_2).f2.f0) = ((rd_T30 l0_1 x6_1).f2.f0) && (((rd_T30 l0_1 x9_2).f2.f1) == ((rd_T30 l0_1 x6_1).f2.f1))) = false := by simpa using c13))
         (try (have c13b2 : (((rd_T30 l0_1 x9_2).f2.f0) == ((rd_T30 l0_1 x6_1).f2.f0) && (((rd_T30 l0_1 x9_2).f2.f1) == ((rd_T30 l0_1 x6_1).f2.f1))) = false := by simpa using c13))
         (try (have c13b3 : ¬ (((rd_T30 l0_1 x9_2).f2.f0) = ((rd_T30 l0_1 x6_1).f2.f0) && (((rd_T30 l0_1 x9_2).f2.f1) == ((rd_T30 l0_1 x6_1).f2.f1))) := by simpa using c13))
         clear c13
         have H' := Aside0.mk H
         clear H
         have hcz21_0 := blk_cell BK1451.out
         have hfz21_0 := blk_frozen BK1451.out
         have p1453 : 0 ≤ (x9_2 : Int) := of_decide_eq_true (by first | (with_reducible assumption) | assumption)
         have q1453 : x9_2 < (l0_1.length : Int) := of_decide_eq_true (by first | (with_reducible assumption) | assumption)
         obtain ⟨ad1453, e1453, hx1453_0, hx1453_1, hx1453_2, hx1453_3, hx1453_4, hx1453_5, hx1453_6, hx1453_7, hx1453_8, hx1453_9, hx1453_10, hx1453_11, hx1453_12⟩ := at_T30 HR0_1.out x9_2 p1453 q1453
         cases e1453
         replace hx1453_0 := hbC HB hx1453_0
         replace hx1453_1 := hbC HB hx1453_1
         replace hx1453_2 := hbC HB hx1453_2
         replace hx1453_3 := hbC HB hx1453_3
         replace hx1453_4 := hbC HB hx1453_4
         replace hx1453_5 := hbC HB hx1453_5
         replace hx1453_6 := hbC HB hx1453_6
         replace hx1453_7 := hbC HB hx1453_7
         replace hx1453_8 := hbC HB hx1453_8
         replace hx1453_9 := hbC HB hx1453_9
         replace hx1453_10 := hbC HB hx1453_10
         replace hx1453_11 := hbC HB hx1453_11
         replace hx1453_12 := hbC HB hx1453_12
         replace p1453 := eq_true p1453
         replace q1453 := eq_true q1453
         have p1454 : 0 ≤ (x6_1 : Int) := of_decide_eq_true (by first | (with_reducible assumption) | assumption)
         have q1454 : x6_1 < (l0_1.length : Int) := of_decide_eq_true (by first | (with_reducible assumption) | assumption)
         obtain ⟨ad1454, e1454, hx1454_0, hx1454_1, hx1454_2, hx1454_3, hx1454_4, hx1454_5, hx1454_6, hx1454_7, hx1454_8, hx1454_9, hx1454_10, hx1454_11, hx1454_12⟩ := at_T30 HR0_1.out x6_1 p1454 q1454
         obtain rfl : ad1453 = ad1454 := (by injection e1454)
         replace hx1454_0 := hbC HB hx1454_0
         replace hx1454_1 := hbC HB hx1454_1
         replace hx1454_2 := hbC HB hx1454_2
         replace hx1454_3 := hbC HB hx1454_3
         replace hx1454_4 := hbC HB hx1454_4
         replace hx1454_5 := hbC HB hx1454_5
         replace hx1454_6 := hbC HB hx1454_6
         replace hx1454_7 := hbC HB hx1454_7
         replace hx1454_8 := hbC HB hx1454_8
         replace hx1454_9 := hbC HB hx1454_9
         replace hx1454_10 := hbC HB hx1454_10
         replace hx1454_11 := hbC HB hx1454_11
         replace hx1454_12 := hbC HB hx1454_12
         replace p1454 := eq_true p1454
         replace q1454 := eq_true q1454
         go_wp2
         repeat (go_quiet (fail); try go_wp2)
         go_roundg k2
         case measure => have := HK1.out; have := HK2.out; omega
         case rel => exact ⟨(x7_2), (x8_2), (wrap64 (x9_2 + 1)), (by first | rfl | (simp; done) | (simp [*]; done)), (by first | rfl | (simp; done) | (simp [*]; done)), (by first | rfl | (simp; done) | (simp [*]; done)), H', ⟨by have := HK1.out; have := HK2.out; omega⟩, ⟨by (with_reducible repeat (first | apply Kd.R_alloc | apply Kd.R_drewN | apply Kd.R_drew)); exact HO_5.out⟩, ⟨by (with_reducible repeat (first | refine blk_drewN ?_ _ | refine blk_drew ?_ | refine blk_alloc ?_ _)); exact BK1451.out⟩, ⟨hU HB.out⟩⟩
       ·rw [if_neg c9] at H
        have c9b0 : decide (x9_2 < (l0_1.length : Int)) = false := decide_eq_false c9
        clear c9
        by_cases c22 : x7_2 = true
        ·subst c22
         rw [if_pos rfl] at H
         by_cases c23 : 0 ≤ x6_1
         rotate_left
         ·rw [if_neg c23] at H
          exact absurd H (by simp)
         rw [if_pos c23] at H
         have c23b0 : decide (0 ≤ x6_1) = true := decide_eq_true c23
         clear c23
         by_cases c24 : x6_1 < (l0_1.length : Int)
         rotate_left
         ·rw [if_neg c24] at H
          exact absurd H (by simp)
         rw [if_pos c24] at H
         have c24b0 : decide (x6_1 < (l0_1.length : Int)) = true := decide_eq_true c24
         clear c24
         replace H := Option.bind_eq_some_iff.mp H
         obtain ⟨t1456, A250, H⟩ := H
         try dsimp only at H
         have A25 := Aside0.mk A250
         clear A250
         by_cases c26 : x5_1.length + t1456.length < 140737488355328
         rotate_left
         ·rw [if_neg c26] at H
          exact absurd H (by simp)
         rw [if_pos c26] at H
         have LMc26 := Aside0.mk c26
         clear c26
         obtain ⟨y1459, hy1459⟩ : ∃ y_ : List Int, y_ = (x5_1 ++ t1456) := ⟨_, rfl⟩
         replace H : (dancestudioref58_Compact.l0 k2 y1459 (wrap64 (x6_1 + 1)) a0_0 l0_1) = some (r1, r2) := by first | (rw [hy1459]; with_reducible exact H) | (have H2_ := (Option.bind_some _ _).symm.trans H; rw [hy1459]; with_reducible exact H2_) | (have H2_ := (Option.bind_some _ _).symm.trans H; with_reducible exact H2_) | with_reducible exact H | (rw [hy1459]; exact H) | exact H
         have Ny1459 := Aside0.mk hy1459
         clear hy1459
         have H' := Aside0.mk H
         clear H
         have hcz27_0 := blk_cell BK1451.out
         have hfz27_0 := blk_frozen BK1451.out
         have p1455 : 0 ≤ (x6_1 : Int) := of_decide_eq_true (by first | (with_reducible assumption) | assumption)
         have q1455 : x6_1 < (l0_1.length : Int) := of_decide_eq_true (by first | (with_reducible assumption) | assumption)
         obtain ⟨ad1455, e1455, hx1455_0, hx1455_1, hx1455_2, hx1455_3, hx1455_4, hx1455_5, hx1455_6, hx1455_7, hx1455_8, hx1455_9, hx1455_10, hx1455_11, hx1455_12⟩ := at_T30 HR0_1.out x6_1 p1455 q1455
         cases e1455
         replace hx1455_0 := hbC HB hx1455_0
         replace hx1455_1 := hbC HB hx1455_1
         replace hx1455_2 := hbC HB hx1455_2
         replace hx1455_3 := hbC HB hx1455_3
         replace hx1455_4 := hbC HB hx1455_4
         replace hx1455_5 := hbC HB hx1455_5
         replace hx1455_6 := hbC HB hx1455_6
         replace hx1455_7 := hbC HB hx1455_7
         replace hx1455_8 := hbC HB hx1455_8
         replace hx1455_9 := hbC HB hx1455_9
         replace hx1455_10 := hbC HB hx1455_10
         replace hx1455_11 := hbC HB hx1455_11
         replace hx1455_12 := hbC HB hx1455_12
         replace p1455 := eq_true p1455
         replace q1455 := eq_true q1455
         go_wp2_with (first | (go_at_call 85; (with_reducible refine (dancestudioref58_frame.calls k2 ((rd_T30 l0_1 x6_1).f0.f0) ((rd_T30 l0_1 x6_1).f0.f1) ((rd_T30 l0_1 x6_1).f1) ((rd_T30 l0_1 x6_1).f2.f0) ((rd_T30 l0_1 x6_1).f2.f1) ((rd_T30 l0_1 x6_1).f3) ((rd_T30 l0_1 x6_1).f4.f0) ((rd_T30 l0_1 x6_1).f4.f1) ((rd_T30 l0_1 x6_1).f4.f2) ((rd_T30 l0_1 x6_1).f4.f3) ((rd_T30 l0_1 x6_1).f4.f4) ((rd_T30 l0_1 x6_1).f4.f5) ((rd_T30 l0_1 x6_1).f4.f6) t1456 _ A25.out).mono ?_); rintro e w28 ⟨v1457, rfl, ho0, hb⟩; replace HO1458 := Aside0.mk (Kd.R_lower (Kd.R_new' ho0 (Kd.R_lt (Kd.rU HO_5.out))) (below_size (hU HB.out))); replace HO_5 := Aside0.mk (Kd.R_elder' (Kd.rU HO_5.out) (Kd.R_base ho0) hb); replace BK1451 := Aside0.mk (blk_below (bU BK1451.out) hb); replace HB := Aside0.mk (below_step (hU HB.out) hb); (try clear hb); (try clear hb2); (try clear hk); (try clear hi); (try clear ho0); obtain ⟨Ao30, co30, eo30⟩ := Kd.R_slice HO1458.out; subst eo30) | ((with_reducible refine gate_builtin (b := .append) (xs := #[.tmp 58, .tmp 64]) rfl ?_); at_builtin; refine Kd.R_append_rows (Kd.int .u8) (w0 := w) w.heap.size rfl (.tmp 58) (.tmp 64) 60 5 (.int .u8 0) 1 rfl Try.underlying60 info5 rfl (by decide) (by omega) u5 x5_1 t1456 _ _ _ (fun k_ => some k_ ≠ (.slice Ao30 t1456.length co30 : Value).ownBlock) (fun _ => False) rfl rfl ?aO ?aR (fun _ _ h => h) (fun _ h => h.elim) ?aF ?aB ?aS ?aL ?_; (case aR => repeat (first | exact (Kd.R_reads' HO1458.out).2.2 | (with_reducible refine Kd.C_alloc ?_ _) | (with_reducible refine Kd.C_drewN ?_ _) | (with_reducible refine Kd.C_drew ?_))); (case aB => exact (hU HB.out)); (case aF => exact (fun k_ hk => Kd.fresh' (Kd.R_lt (Kd.rU HO1458.out)) k_ hk)); (case aO => exact (by (with_reducible repeat (first | apply Kd.R_alloc | apply Kd.R_drewN | apply Kd.R_drew)); exact Kd.R_mono HO_5.out (fun _ hk => hk.2))); (case aS => exact (below_size (hU HB.out))); (case aL => have := LMc26.out; omega); intro v1460 w29 ho hb hg hat; rw [← Ny1459.out] at ho; have n0_ := Aside0.mk (blk_grown (bU BK1451.out) hg (Kd.R_ne HO_5.out BK1451.out (by decide))); have n1_ := Aside0.mk (Kd.R_after (ok := (fun _ => True)) (Kd.rU HO1458.out) hg hat); have n2_ := Aside0.mk (hb); have n3_ := Aside0.mk (ho); clear BK1451; clear HO1458; clear HB; clear HO_5; have BK1451 := n0_; have HO1458 := n1_; have HB := n2_; have HO1461 := n3_; clear n0_ n1_ n2_ n3_; clear ho hb hg hat))
         repeat (go_quiet (first | (go_at_call 85; (with_reducible refine (dancestudioref58_frame.calls k2 ((rd_T30 l0_1 x6_1).f0.f0) ((rd_T30 l0_1 x6_1).f0.f1) ((rd_T30 l0_1 x6_1).f1) ((rd_T30 l0_1 x6_1).f2.f0) ((rd_T30 l0_1 x6_1).f2.f1) ((rd_T30 l0_1 x6_1).f3) ((rd_T30 l0_1 x6_1).f4.f0) ((rd_T30 l0_1 x6_1).f4.f1) ((rd_T30 l0_1 x6_1).f4.f2) ((rd_T30 l0_1 x6_1).f4.f3) ((rd_T30 l0_1 x6_1).f4.f4) ((rd_T30 l0_1 x6_1).f4.f5) ((rd_T30 l0_1 x6_1).f4.f6) t1456 _ A25.out).mono ?_); rintro e w28 ⟨v1457, rfl, ho0, hb⟩; replace HO1458 := Aside0.mk (Kd.R_lower (Kd.R_new' ho0 (Kd.R_lt (Kd.rU HO_5.out))) (below_size (hU HB.out))); replace HO_5 := Aside0.mk (Kd.R_elder' (Kd.rU HO_5.out) (Kd.R_base ho0) hb); replace BK1451 := Aside0.mk (blk_below (bU BK1451.out) hb); replace HB := Aside0.mk (below_step (hU HB.out) hb); (try clear hb); (try clear hb2); (try clear hk); (try clear hi); (try clear ho0); obtain ⟨Ao30, co30, eo30⟩ := Kd.R_slice HO1458.out; subst eo30) | ((with_reducible refine gate_builtin (b := .append) (xs := #[.tmp 58, .tmp 64]) rfl ?_); at_builtin; refine Kd.R_append_rows (Kd.int .u8) (w0 := w) w.heap.size rfl (.tmp 58) (.tmp 64) 60 5 (.int .u8 0) 1 rfl Try.underlying60 info5 rfl (by decide) (by omega) u5 x5_1 t1456 _ _ _ (fun k_ => some k_ ≠ (.slice Ao30 t1456.length co30 : Value).ownBlock) (fun _ => False) rfl rfl ?aO ?aR (fun _ _ h => h) (fun _ h => h.elim) ?aF ?aB ?aS ?aL ?_; (case aR => repeat (first | exact (Kd.R_reads' HO1458.out).2.2 | (with_reducible refine Kd.C_alloc ?_ _) | (with_reducible refine Kd.C_drewN ?_ _) | (with_reducible refine Kd.C_drew ?_))); (case aB => exact (hU HB.out)); (case aF => exact (fun k_ hk => Kd.fresh' (Kd.R_lt (Kd.rU HO1458.out)) k_ hk)); (case aO => exact (by (with_reducible repeat (first | apply Kd.R_alloc | apply Kd.R_drewN | apply Kd.R_drew)); exact Kd.R_mono HO_5.out (fun _ hk => hk.2))); (case aS => exact (below_size (hU HB.out))); (case aL => have := LMc26.out; omega); intro v1460 w29 ho hb hg hat; rw [← Ny1459.out] at ho; have n0_ := Aside0.mk (blk_grown (bU BK1451.out) hg (Kd.R_ne HO_5.out BK1451.out (by decide))); have n1_ := Aside0.mk (Kd.R_after (ok := (fun _ => True)) (Kd.rU HO1458.out) hg hat); have n2_ := Aside0.mk (hb); have n3_ := Aside0.mk (ho); clear BK1451; clear HO1458; clear HB; clear HO_5; have BK1451 := n0_; have HO1458 := n1_; have HB := n2_; have HO1461 := n3_; clear n0_ n1_ n2_ n3_; clear ho hb hg hat)); try go_wp2_with (first | (go_at_call 85; (with_reducible refine (dancestudioref58_frame.calls k2 ((rd_T30 l0_1 x6_1).f0.f0) ((rd_T30 l0_1 x6_1).f0.f1) ((rd_T30 l0_1 x6_1).f1) ((rd_T30 l0_1 x6_1).f2.f0) ((rd_T30 l0_1 x6_1).f2.f1) ((rd_T30 l0_1 x6_1).f3) ((rd_T30 l0_1 x6_1).f4.f0) ((rd_T30 l0_1 x6_1).f4.f1) ((rd_T30 l0_1 x6_1).f4.f2) ((rd_T30 l0_1 x6_1).f4.f3) ((rd_T30 l0_1 x6_1).f4.f4) ((rd_T30 l0_1 x6_1).f4.f5) ((rd_T30 l0_1 x6_1).f4.f6) t1456 _ A25.out).mono ?_); rintro e w28 ⟨v1457, rfl, ho0, hb⟩; replace HO1458 := Aside0.mk (Kd.R_lower (Kd.R_new' ho0 (Kd.R_lt (Kd.rU HO_5.out))) (below_size (hU HB.out))); replace HO_5 := Aside0.mk (Kd.R_elder' (Kd.rU HO_5.out) (Kd.R_base ho0) hb); replace BK1451 := Aside0.mk (blk_below (bU BK1451.out) hb); replace HB := Aside0.mk (below_step (hU HB.out) hb); (try clear hb); (try clear hb2); (try clear hk); (try clear hi); (try clear ho0); obtain ⟨Ao30, co30, eo30⟩ := Kd.R_slice HO1458.out; subst eo30) | ((with_reducible refine gate_builtin (b := .append) (xs := #[.tmp 58, .tmp 64]) rfl ?_); at_builtin; refine Kd.R_append_rows (Kd.int .u8) (w0 := w) w.heap.size rfl (.tmp 58) (.tmp 64) 60 5 (.int .u8 0) 1 rfl Try.underlying60 info5 rfl (by decide) (by omega) u5 x5_1 t1456 _ _ _ (fun k_ => some k_ ≠ (.slice Ao30 t1456.length co30 : Value).ownBlock) (fun _ => False) rfl rfl ?aO ?aR (fun _ _ h => h) (fun _ h => h.elim) ?aF ?aB ?aS ?aL ?_; (case aR => repeat (first | exact (Kd.R_reads' HO1458.out).2.2 | (with_reducible refine Kd.C_alloc ?_ _) | (with_reducible refine Kd.C_drewN ?_ _) | (with_reducible refine Kd.C_drew ?_))); (case aB => exact (hU HB.out)); (case aF => exact (fun k_ hk => Kd.fresh' (Kd.R_lt (Kd.rU HO1458.out)) k_ hk)); (case aO => exact (by (with_reducible repeat (first | apply Kd.R_alloc | apply Kd.R_drewN | apply Kd.R_drew)); exact Kd.R_mono HO_5.out (fun _ hk => hk.2))); (case aS => exact (below_size (hU HB.out))); (case aL => have := LMc26.out; omega); intro v1460 w29 ho hb hg hat; rw [← Ny1459.out] at ho; have n0_ := Aside0.mk (blk_grown (bU BK1451.out) hg (Kd.R_ne HO_5.out BK1451.out (by decide))); have n1_ := Aside0.mk (Kd.R_after (ok := (fun _ => True)) (Kd.rU HO1458.out) hg hat); have n2_ := Aside0.mk (hb); have n3_ := Aside0.mk (ho); clear BK1451; clear HO1458; clear HB; clear HO_5; have BK1451 := n0_; have HO1458 := n1_; have HB := n2_; have HO1461 := n3_; clear n0_ n1_ n2_ n3_; clear ho hb hg hat)))
         go_roundg k2
         case measure => have := HK1.out; have := HK2.out; omega
         case rel => exact ⟨(y1459), (wrap64 (x6_1 + 1)), (by first | rfl | (simp; done) | (simp [*]; done)), H', ⟨by have := HK1.out; have := HK2.out; omega⟩, ⟨by (with_reducible repeat (first | apply Kd.R_alloc | apply Kd.R_drewN | apply Kd.R_drew)); exact Kd.R_mono HO1461.out (fun _ hk => trivial)⟩, ⟨by (with_reducible repeat (first | refine blk_drewN ?_ _ | refine blk_drew ?_ | refine blk_alloc ?_ _)); exact BK1451.out⟩, ⟨hU HB.out⟩⟩
        ·replace c22 := Bool.eq_false_iff.mpr c22
         subst c22
         rw [if_neg (show ¬ (false = true) by decide)] at H
         by_cases c31 : x8_2 = true
         ·subst c31
          rw [if_pos rfl] at H
          by_cases c32 : 0 ≤ x6_1
          rotate_left
          ·rw [if_neg c32] at H
           exact absurd H (by simp)
          rw [if_pos c32] at H
          have c32b0 : decide (0 ≤ x6_1) = true := decide_eq_true c32
          clear c32
          by_cases c33 : x6_1 < (l0_1.length : Int)
          rotate_left
          ·rw [if_neg c33] at H
           exact absurd H (by simp)
          rw [if_pos c33] at H
          have c33b0 : decide (x6_1 < (l0_1.length : Int)) = true := decide_eq_true c33
          clear c33
          replace H := Option.bind_eq_some_iff.mp H
          obtain ⟨t1463, A340, H⟩ := H
          try dsimp only at H
          have A34 := Aside0.mk A340
          clear A340
          by_cases c35 : x5_1.length + t1463.length < 140737488355328
          rotate_left
          ·rw [if_neg c35] at H
           exact absurd H (by simp)
          rw [if_pos c35] at H
          have LMc35 := Aside0.mk c35
          clear c35
          obtain ⟨y1466, hy1466⟩ : ∃ y_ : List Int, y_ = (x5_1 ++ t1463) := ⟨_, rfl⟩
          replace H : (dancestudioref58_Compact.l0 k2 y1466 (wrap64 (x6_1 + 1)) a0_0 l0_1) = some (r1, r2) := by first | (rw [hy1466]; with_reducible exact H) | (have H2_ := (Option.bind_some _ _).symm.trans H; rw [hy1466]; with_reducible exact H2_) | (have H2_ := (Option.bind_some _ _).symm.trans H; with_reducible exact H2_) | with_reducible exact H | (rw [hy1466]; exact H) | exact H
          have Ny1466 := Aside0.mk hy1466
          clear hy1466
          have H' := Aside0.mk H
          clear H
          have hcz36_0 := blk_cell BK1451.out
          have hfz36_0 := blk_frozen BK1451.out
          have p1462 : 0 ≤ (x6_1 : Int) := of_decide_eq_true (by first | (with_reducible assumption) | assumption)
          have q1462 : x6_1 < (l0_1.length : Int) := of_decide_eq_true (by first | (with_reducible assumption) | assumption)
          obtain ⟨ad1462, e1462, hx1462_0, hx1462_1, hx1462_2, hx1462_3, hx1462_4, hx1462_5, hx1462_6, hx1462_7, hx1462_8, hx1462_9, hx1462_10, hx1462_11, hx1462_12⟩ := at_T30 HR0_1.out x6_1 p1462 q1462
          cases e1462
          replace hx1462_0 := hbC HB hx1462_0
          replace hx1462_1 := hbC HB hx1462_1
          replace hx1462_2 := hbC HB hx1462_2
          replace hx1462_3 := hbC HB hx1462_3
          replace hx1462_4 := hbC HB hx1462_4
          replace hx1462_5 := hbC HB hx1462_5
          replace hx1462_6 := hbC HB hx1462_6
          replace hx1462_7 := hbC HB hx1462_7
          replace hx1462_8 := hbC HB hx1462_8
          replace hx1462_9 := hbC HB hx1462_9
          replace hx1462_10 := hbC HB hx1462_10
          replace hx1462_11 := hbC HB hx1462_11
          replace hx1462_12 := hbC HB hx1462_12
          replace p1462 := eq_true p1462
          replace q1462 := eq_true q1462
          go_wp2_with (first | (go_at_call 85; (with_reducible refine (dancestudioref58_frame.calls k2 ((rd_T30 l0_1 x6_1).f0.f0) ((rd_T30 l0_1 x6_1).f0.f1) ((rd_T30 l0_1 x6_1).f1) ((rd_T30 l0_1 x6_1).f2.f0) ((rd_T30 l0_1 x6_1).f2.f1) ((rd_T30 l0_1 x6_1).f3) ((rd_T30 l0_1 x6_1).f4.f0) ((rd_T30 l0_1 x6_1).f4.f1) ((rd_T30 l0_1 x6_1).f4.f2) ((rd_T30 l0_1 x6_1).f4.f3) ((rd_T30 l0_1 x6_1).f4.f4) ((rd_T30 l0_1 x6_1).f4.f5) ((rd_T30 l0_1 x6_1).f4.f6) t1463 _ A34.out).mono ?_); rintro e w37 ⟨v1464, rfl, ho0, hb⟩; replace HO1465 := Aside0.mk (Kd.R_lower (Kd.R_new' ho0 (Kd.R_lt (Kd.rU HO_5.out))) (below_size (hU HB.out))); replace HO_5 := Aside0.mk (Kd.R_elder' (Kd.rU HO_5.out) (Kd.R_base ho0) hb); replace BK1451 := Aside0.mk (blk_below (bU BK1451.out) hb); replace HB := Aside0.mk (below_step (hU HB.out) hb); (try clear hb); (try clear hb2); (try clear hk); (try clear hi); (try clear ho0); obtain ⟨Ao39, co39, eo39⟩ := Kd.R_slice HO1465.out; subst eo39) | ((with_reducible refine gate_builtin (b := .append) (xs := #[.tmp 58, .tmp 64]) rfl ?_); at_builtin; refine Kd.R_append_rows (Kd.int .u8) (w0 := w) w.heap.size rfl (.tmp 58) (.tmp 64) 60 5 (.int .u8 0) 1 rfl Try.underlying60 info5 rfl (by decide) (by omega) u5 x5_1 t1463 _ _ _ (fun k_ => some k_ ≠ (.slice Ao39 t1463.length co39 : Value).ownBlock) (fun _ => False) rfl rfl ?aO ?aR (fun _ _ h => h) (fun _ h => h.elim) ?aF ?aB ?aS ?aL ?_; (case aR => repeat (first | exact (Kd.R_reads' HO1465.out).2.2 | (with_reducible refine Kd.C_alloc ?_ _) | (with_reducible refine Kd.C_drewN ?_ _) | (with_reducible refine Kd.C_drew ?_))); (case aB => exact (hU HB.out)); (case aF => exact (fun k_ hk => Kd.fresh' (Kd.R_lt (Kd.rU HO1465.out)) k_ hk)); (case aO => exact (by (with_reducible repeat (first | apply Kd.R_alloc | apply Kd.R_drewN | apply Kd.R_drew)); exact Kd.R_mono HO_5.out (fun _ hk => hk.2))); (case aS => exact (below_size (hU HB.out))); (case aL => have := LMc35.out; omega); intro v1467 w38 ho hb hg hat; rw [← Ny1466.out] at ho; have n0_ := Aside0.mk (blk_grown (bU BK1451.out) hg (Kd.R_ne HO_5.out BK1451.out (by decide))); have n1_ := Aside0.mk (Kd.R_after (ok := (fun _ => True)) (Kd.rU HO1465.out) hg hat); have n2_ := Aside0.mk (hb); have n3_ := Aside0.mk (ho); clear BK1451; clear HO1465; clear HB; clear HO_5; have BK1451 := n0_; have HO1465 := n1_; have HB := n2_; have HO1468 := n3_; clear n0_ n1_ n2_ n3_; clear ho hb hg hat))
          repeat (go_quiet (first | (go_at_call 85; (with_reducible refine (dancestudioref58_frame.calls k2 ((rd_T30 l0_1 x6_1).f0.f0) ((rd_T30 l0_1 x6_1).f0.f1) ((rd_T30 l0_1 x6_1).f1) ((rd_T30 l0_1 x6_1).f2.f0) ((rd_T30 l0_1 x6_1).f2.f1) ((rd_T30 l0_1 x6_1).f3) ((rd_T30 l0_1 x6_1).f4.f0) ((rd_T30 l0_1 x6_1).f4.f1) ((rd_T30 l0_1 x6_1).f4.f2) ((rd_T30 l0_1 x6_1).f4.f3) ((rd_T30 l0_1 x6_1).f4.f4) ((rd_T30 l0_1 x6_1).f4.f5) ((rd_T30 l0_1 x6_1).f4.f6) t1463 _ A34.out).mono ?_); rintro e w37 ⟨v1464, rfl, ho0, hb⟩; replace HO1465 := Aside0.mk (Kd.R_lower (Kd.R_new' ho0 (Kd.R_lt (Kd.rU HO_5.out))) (below_size (hU HB.out))); replace HO_5 := Aside0.mk (Kd.R_elder' (Kd.rU HO_5.out) (Kd.R_base ho0) hb); replace BK1451 := Aside0.mk (blk_below (bU BK1451.out) hb); replace HB := Aside0.mk (below_step (hU HB.out) hb); (try clear hb); (try clear hb2); (try clear hk); (try clear hi); (try clear ho0); obtain ⟨Ao39, co39, eo39⟩ := Kd.R_slice HO1465.out; subst eo39) | ((with_reducible refine gate_builtin (b := .append) (xs := #[.tmp 58, .tmp 64]) rfl ?_); at_builtin; refine Kd.R_append_rows (Kd.int .u8) (w0 := w) w.heap.size rfl (.tmp 58) (.tmp 64) 60 5 (.int .u8 0) 1 rfl Try.underlying60 info5 rfl (by decide) (by omega) u5 x5_1 t1463 _ _ _ (fun k_ => some k_ ≠ (.slice Ao39 t1463.length co39 : Value).ownBlock) (fun _ => False) rfl rfl ?aO ?aR (fun _ _ h => h) (fun _ h => h.elim) ?aF ?aB ?aS ?aL ?_; (case aR => repeat (first | exact (Kd.R_reads' HO1465.out).2.2 | (with_reducible refine Kd.C_alloc ?_ _) | (with_reducible refine Kd.C_drewN ?_ _) | (with_reducible refine Kd.C_drew ?_))); (case aB => exact (hU HB.out)); (case aF => exact (fun k_ hk => Kd.fresh' (Kd.R_lt (Kd.rU HO1465.out)) k_ hk)); (case aO => exact (by (with_reducible repeat (first | apply Kd.R_alloc | apply Kd.R_drewN | apply Kd.R_drew)); exact Kd.R_mono HO_5.out (fun _ hk => hk.2))); (case aS => exact (below_size (hU HB.out))); (case aL => have := LMc35.out; omega); intro v1467 w38 ho hb hg hat; rw [← Ny1466.out] at ho; have n0_ := Aside0.mk (blk_grown (bU BK1451.out) hg (Kd.R_ne HO_5.out BK1451.out (by decide))); have n1_ := Aside0.mk (Kd.R_after (ok := (fun _ => True)) (Kd.rU HO1465.out) hg hat); have n2_ := Aside0.mk (hb); have n3_ := Aside0.mk (ho); clear BK1451; clear HO1465; clear HB; clear HO_5; have BK1451 := n0_; have HO1465 := n1_; have HB := n2_; have HO1468 := n3_; clear n0_ n1_ n2_ n3_; clear ho hb hg hat)); try go_wp2_with (first | (go_at_call 85; (with_reducible refine (dancestudioref58_frame.calls k2 ((rd_T30 l0_1 x6_1).f0.f0) ((rd_T30 l0_1 x6_1).f0.f1) ((rd_T30 l0_1 x6_1).f1) ((rd_T30 l0_1 x6_1).f2.f0) ((rd_T30 l0_1 x6_1).f2.f1) ((rd_T30 l0_1 x6_1).f3) ((rd_T30 l0_1 x6_1).f4.f0) ((rd_T30 l0_1 x6_1).f4.f1) ((rd_T30 l0_1 x6_1).f4.f2) ((rd_T30 l0_1 x6_1).f4.f3) ((rd_T30 l0_1 x6_1).f4.f4) ((rd_T30 l0_1 x6_1).f4.f5) ((rd_T30 l0_1 x6_1).f4.f6) t1463 _ A34.out).mono ?_); rintro e w37 ⟨v1464, rfl, ho0, hb⟩; replace HO1465 := Aside0.mk (Kd.R_lower (Kd.R_new' ho0 (Kd.R_lt (Kd.rU HO_5.out))) (below_size (hU HB.out))); replace HO_5 := Aside0.mk (Kd.R_elder' (Kd.rU HO_5.out) (Kd.R_base ho0) hb); replace BK1451 := Aside0.mk (blk_below (bU BK1451.out) hb); replace HB := Aside0.mk (below_step (hU HB.out) hb); (try clear hb); (try clear hb2); (try clear hk); (try clear hi); (try clear ho0); obtain ⟨Ao39, co39, eo39⟩ := Kd.R_slice HO1465.out; subst eo39) | ((with_reducible refine gate_builtin (b := .append) (xs := #[.tmp 58, .tmp 64]) rfl ?_); at_builtin; refine Kd.R_append_rows (Kd.int .u8) (w0 := w) w.heap.size rfl (.tmp 58) (.tmp 64) 60 5 (.int .u8 0) 1 rfl Try.underlying60 info5 rfl (by decide) (by omega) u5 x5_1 t1463 _ _ _ (fun k_ => some k_ ≠ (.slice Ao39 t1463.length co39 : Value).ownBlock) (fun _ => False) rfl rfl ?aO ?aR (fun _ _ h => h) (fun _ h => h.elim) ?aF ?aB ?aS ?aL ?_; (case aR => repeat (first | exact (Kd.R_reads' HO1465.out).2.2 | (with_reducible refine Kd.C_alloc ?_ _) | (with_reducible refine Kd.C_drewN ?_ _) | (with_reducible refine Kd.C_drew ?_))); (case aB => exact (hU HB.out)); (case aF => exact (fun k_ hk => Kd.fresh' (Kd.R_lt (Kd.rU HO1465.out)) k_ hk)); (case aO => exact (by (with_reducible repeat (first | apply Kd.R_alloc | apply Kd.R_drewN | apply Kd.R_drew)); exact Kd.R_mono HO_5.out (fun _ hk => hk.2))); (case aS => exact (below_size (hU HB.out))); (case aL => have := LMc35.out; omega); intro v1467 w38 ho hb hg hat; rw [← Ny1466.out] at ho; have n0_ := Aside0.mk (blk_grown (bU BK1451.out) hg (Kd.R_ne HO_5.out BK1451.out (by decide))); have n1_ := Aside0.mk (Kd.R_after (ok := (fun _ => True)) (Kd.rU HO1465.out) hg hat); have n2_ := Aside0.mk (hb); have n3_ := Aside0.mk (ho); clear BK1451; clear HO1465; clear HB; clear HO_5; have BK1451 := n0_; have HO1465 := n1_; have HB := n2_; have HO1468 := n3_; clear n0_ n1_ n2_ n3_; clear ho hb hg hat)))
          go_roundg k2
          case measure => have := HK1.out; have := HK2.out; omega
          case rel => exact ⟨(y1466), (wrap64 (x6_1 + 1)), (by first | rfl | (simp; done) | (simp [*]; done)), H', ⟨by have := HK1.out; have := HK2.out; omega⟩, ⟨by (with_reducible repeat (first | apply Kd.R_alloc | apply Kd.R_drewN | apply Kd.R_drew)); exact Kd.R_mono HO1468.out (fun _ hk => trivial)⟩, ⟨by (with_reducible repeat (first | refine blk_drewN ?_ _ | refine blk_drew ?_ | refine blk_alloc ?_ _)); exact BK1451.out⟩, ⟨hU HB.out⟩⟩
         ·replace c31 := Bool.eq_false_iff.mpr c31
          subst c31
          have H1 : (dancestudioref58_Compact.l0 k2 x5_1 (wrap64 (x6_1 + 1)) a0_0 l0_1) = some (r1, r2) := by rw [if_neg (show ¬ (false = true) by decide)] at H; exact H
          clear H
          have H := H1
          clear H1
          have H' := Aside0.mk H
          clear H
          have hcz40_0 := blk_cell BK1451.out
          have hfz40_0 := blk_frozen BK1451.out
          go_wp2
          repeat (go_quiet (fail); try go_wp2)
          go_roundg k2
          case measure => have := HK1.out; have := HK2.out; omega
          case rel => exact ⟨(x5_1), (wrap64 (x6_1 + 1)), (by first | rfl | (simp; done) | (simp [*]; done)), H', ⟨by have := HK1.out; have := HK2.out; omega⟩, ⟨by (with_reducible repeat (first | apply Kd.R_alloc | apply Kd.R_drewN | apply Kd.R_drew)); exact HO_5.out⟩, ⟨by (with_reducible repeat (first | refine blk_drewN ?_ _ | refine blk_drew ?_ | refine blk_alloc ?_ _)); exact BK1451.out⟩, ⟨hU HB.out⟩⟩
    ·rw [if_neg c7] at H
     have c7b0 : decide (x6_1 < (l0_1.length : Int)) = false := decide_eq_false c7
     clear c7
     simp only [Option.some.injEq, Prod.mk.injEq] at H
     obtain ⟨rfl, rfl⟩ := H
     have hcz41_0 := blk_cell BK1451.out
     have hfz41_0 := blk_frozen BK1451.out
     go_wp2
     repeat (go_quiet (fail); try go_wp2)
     go_ret2
     exact ⟨_, by first | rfl | (simp [errW_none, errW_some] <;> rfl) | (simp [*, errW_none, errW_some] <;> rfl), by (with_reducible repeat (first | apply Kd.R_alloc | apply Kd.R_drewN | apply Kd.R_drew)); exact HO_5.out, hU HB.out⟩
 ·rw [if_neg c3] at H
  have c3b0 : (t1452 == 0) = false := beq_eq_false_iff_ne.mpr c3
  have c3b1 : (t1452 != 0) = true := bne_iff_ne.mpr c3
  simp only [Option.some.injEq, Prod.mk.injEq] at H
  obtain ⟨rfl, rfl⟩ := H
  go_enter Try.func47, Try.ntmps47
  go_wp2_with (first | ((with_reducible refine gate_dst (N := 1) rfl ?_); refine box_event ?hg (N := 1) ?hd (cs := #[.int .i64 a0_0, .slice A0_1 l0_1.length c0_1]) (t := 24) ?hr ?_; (case hd => rfl); (case hg => rfl); (case hr => first | (go_simp; done) | (go_simp; rfl)); intro gb1451 hg w42 hbox hb; have n0_ := Aside0.mk (below_step (hU HB.out) hb); have n1_ := Aside0.mk (hbox); have n2_ := Aside0.mk ((by rw [hg]; exact (below_size (hU HB.out)) : w.heap.size ≤ gb1451)); have n3_ := Aside0.mk ((by rw [hg]; exact (below_size (hU HB.out)) : w.heap.size ≤ gb1451)); clear HB; have HB := n0_; have BK1451 := n1_; have GW1451 := n2_; have GE1451 := n3_; clear n0_ n1_ n2_ n3_; clear hb hbox hg; have hcz43_0 := blk_cell BK1451.out; have hfz43_0 := blk_frozen BK1451.out) | (go_at_call 34; (with_reducible refine (dancestudioref57_Check.calls k a0_0 _ _ l0_1 t1452 _ ?side1 ?side2 A2.out).mono ?_); (case side1 => repeat (first | exact (Kd.C_below HR0_1.out HB.out) | (with_reducible refine Kd.C_alloc ?_ _) | (with_reducible refine Kd.C_drewN ?_ _) | (with_reducible refine Kd.C_drew ?_))); (case side2 => exact HC0_1.out); rintro e w44 ⟨rfl, hb⟩; replace BK1451 := Aside0.mk (blk_below (bU BK1451.out) hb); replace HB := Aside0.mk (below_step (hU HB.out) hb); (try clear hb); (try clear hb2); (try clear hk); (try clear hi)))
  repeat (go_quiet (first | ((with_reducible refine gate_dst (N := 1) rfl ?_); refine box_event ?hg (N := 1) ?hd (cs := #[.int .i64 a0_0, .slice A0_1 l0_1.length c0_1]) (t := 24) ?hr ?_; (case hd => rfl); (case hg => rfl); (case hr => first | (go_simp; done) | (go_simp; rfl)); intro gb1451 hg w42 hbox hb; have n0_ := Aside0.mk (below_step (hU HB.out) hb); have n1_ := Aside0.mk (hbox); have n2_ := Aside0.mk ((by rw [hg]; exact (below_size (hU HB.out)) : w.heap.size ≤ gb1451)); have n3_ := Aside0.mk ((by rw [hg]; exact (below_size (hU HB.out)) : w.heap.size ≤ gb1451)); clear HB; have HB := n0_; have BK1451 := n1_; have GW1451 := n2_; have GE1451 := n3_; clear n0_ n1_ n2_ n3_; clear hb hbox hg; have hcz43_0 := blk_cell BK1451.out; have hfz43_0 := blk_frozen BK1451.out) | (go_at_call 34; (with_reducible refine (dancestudioref57_Check.calls k a0_0 _ _ l0_1 t1452 _ ?side1 ?side2 A2.out).mono ?_); (case side1 => repeat (first | exact (Kd.C_below HR0_1.out HB.out) | (with_reducible refine Kd.C_alloc ?_ _) | (with_reducible refine Kd.C_drewN ?_ _) | (with_reducible refine Kd.C_drew ?_))); (case side2 => exact HC0_1.out); rintro e w44 ⟨rfl, hb⟩; replace BK1451 := Aside0.mk (blk_below (bU BK1451.out) hb); replace HB := Aside0.mk (below_step (hU HB.out) hb); (try clear hb); (try clear hb2); (try clear hk); (try clear hi))); try go_wp2_with (first | ((with_reducible refine gate_dst (N := 1) rfl ?_); refine box_event ?hg (N := 1) ?hd (cs := #[.int .i64 a0_0, .slice A0_1 l0_1.length c0_1]) (t := 24) ?hr ?_; (case hd => rfl); (case hg => rfl); (case hr => first | (go_simp; done) | (go_simp; rfl)); intro gb1451 hg w42 hbox hb; have n0_ := Aside0.mk (below_step (hU HB.out) hb); have n1_ := Aside0.mk (hbox); have n2_ := Aside0.mk ((by rw [hg]; exact (below_size (hU HB.out)) : w.heap.size ≤ gb1451)); have n3_ := Aside0.mk ((by rw [hg]; exact (below_size (hU HB.out)) : w.heap.size ≤ gb1451)); clear HB; have HB := n0_; have BK1451 := n1_; have GW1451 := n2_; have GE1451 := n3_; clear n0_ n1_ n2_ n3_; clear hb hbox hg; have hcz43_0 := blk_cell BK1451.out; have hfz43_0 := blk_frozen BK1451.out) | (go_at_call 34; (with_reducible refine (dancestudioref57_Check.calls k a0_0 _ _ l0_1 t1452 _ ?side1 ?side2 A2.out).mono ?_); (case side1 => repeat (first | exact (Kd.C_below HR0_1.out HB.out) | (with_reducible refine Kd.C_alloc ?_ _) | (with_reducible refine Kd.C_drewN ?_ _) | (with_reducible refine Kd.C_drew ?_))); (case side2 => exact HC0_1.out); rintro e w44 ⟨rfl, hb⟩; replace BK1451 := Aside0.mk (blk_below (bU BK1451.out) hb); replace HB := Aside0.mk (below_step (hU HB.out) hb); (try clear hb); (try clear hb2); (try clear hk); (try clear hi))))
  go_ret2
  exact ⟨_, by first | rfl | (simp [errW_none, errW_some] <;> rfl) | (simp [*, errW_none, errW_some] <;> rfl), by first | exact Kd.R_nil _ _ _ _ _ | exact Kd.N_nil _ _ _ _ _ | exact Kd.V_nil _ _ _ _ _ | exact Kd.Q_nil _ _ _ _ _ | exact Kd.S_nil _ _ _ _ _, hU HB.out⟩
end Go.Proofs.Yteopkkoblbmggaa.P
end

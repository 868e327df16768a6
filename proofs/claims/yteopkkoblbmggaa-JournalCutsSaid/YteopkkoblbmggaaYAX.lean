/- Texts of this claim in one: P81; no condition. -/
import Derived.Test.YteopkkoblbmggaaYAD
import Derived.Test.YteopkkoblbmggaaYAH
import Derived.Test.YteopkkoblbmggaaYAI
import Derived.Test.YteopkkoblbmggaaYAR
import Derived.Test.YteopkkoblbmggaaYAQ
import Derived.Test.YteopkkoblbmggaaYAK
import Derived.Test.YteopkkoblbmggaaYAJ
section
namespace Go.Proofs.Yteopkkoblbmggaa.P
open Go.RowKit Go.Proofs.YteopkkoblbmggaaW.PrintWords Go.Proofs.YteopkkoblbmggaaW.PrintLast Go.Proofs.YteopkkoblbmggaaW.PrintMore
attribute [local go_sem] max2_int min2_int max_two min_two max_three min_three max_four min_four
set_option linter.unusedVariables false
set_option linter.unusedSimpArgs false
/-! ### dancestudiolaw58_JournalCuts: function 14 -/
def dancestudiolaw58_JournalCuts.l0 : Nat → List Int → Int → List Int → Int → Int → Int → Int → List (S30) → Option (Bool)
 | 0, _, _, _, _, _, _, _, _ => none
 | k + 1, x5, x7, x8, x9, x10, x11, x1491000, x1491001 => if x11 < (x1491001.length : Int) then (if 0 ≤ x11 then ((journal_Append.f k x8 ((rd_T30 x1491001 x11).f0.f0) ((rd_T30 x1491001 x11).f0.f1) ((rd_T30 x1491001 x11).f1) ((rd_T30 x1491001 x11).f2.f0) ((rd_T30 x1491001 x11).f2.f1) ((rd_T30 x1491001 x11).f3) ((rd_T30 x1491001 x11).f4.f0) ((rd_T30 x1491001 x11).f4.f1) ((rd_T30 x1491001 x11).f4.f2) ((rd_T30 x1491001 x11).f4.f3) ((rd_T30 x1491001 x11).f4.f4) ((rd_T30 x1491001 x11).f4.f5) ((rd_T30 x1491001 x11).f4.f6)).bind fun bt1498 => (if bt1498.2 = 0 then (if (bt1498.1.length : Int) ≤ x7 then (dancestudiolaw58_JournalCuts.l0 k x5 x7 bt1498.1 (bt1498.1.length : Int) (wrap64 (x11 + 1)) (wrap64 (x11 + 1)) x1491000 x1491001) else (dancestudiolaw58_JournalCuts.l0 k x5 x7 bt1498.1 x9 x10 (wrap64 (x11 + 1)) x1491000 x1491001)) else (none))) else (none)) else ((dancestudioref58_Bytes.f x8 x5).bind fun t1502 => (if t1502 = true then (if 0 ≤ x7 then (if x7 ≤ (x5.length : Int) then ((journal_Recover.f k x1491000 (x5.take (x7 : Int).toNat)).bind fun bt1507 => ((journal_Recover.f k x1491000 x5).bind fun bt1514 => (if bt1507.2.2.2 = 0 then (if bt1514.2.2.2 = 0 then (if bt1507.2.2.1 = x9 then (if bt1514.2.2.1 = (x5.length : Int) then (if bt1507.1 = x1491000 then (if 0 ≤ x10 then (if x10 ≤ (x1491001.length : Int) then ((dancestudioref58_Edits.f k bt1507.2.1 (x1491001.take (x10 : Int).toNat)).bind fun t1525 => (if t1525 = true then ((dancestudioref58_Same.f k bt1514.1 bt1514.2.1 x1491000 x1491001).bind fun t1526 => (if t1526 = true then ((dancestudiolaw58_awake.f k).bind fun t1527 => (some t1527)) else (none))) else (none))) else (none)) else (none)) else (none)) else (none)) else (none)) else (none)) else (none)))) else (none)) else (none)) else (none)))
def dancestudiolaw58_JournalCuts.f (k : Nat) (a0_0 : Int) (l0_1 : List (S30)) (a1 : Int) : Option (Bool) := if (l0_1.length : Int) > 40 then ((dancestudiolaw58_awake.f k).bind fun t1491 => (some t1491)) else ((replica_Check.f a0_0 l0_1).bind fun t1492 => (if t1492 = 0 then ((journal_Write.f k a0_0 l0_1).bind fun bt1493 => (if bt1493.2 = 0 then (if (wrap64 ((bt1493.1.length : Int) + 1)) = 0 then (none) else (dancestudiolaw58_JournalCuts.l0 k bt1493.1 (Int.tmod (wrap64 (a1)) (wrap64 ((bt1493.1.length : Int) + 1))) ([] : List Int) 0 0 0 a0_0 l0_1)) else (none))) else ((dancestudiolaw58_awake.f k).bind fun t1528 => (some t1528))))
theorem dancestudiolaw58_JournalCuts.mono_l : ∀ k, (∀ y0 y1 y2 y3 y4 y5 y6 y7, LeO (dancestudiolaw58_JournalCuts.l0 k y0 y1 y2 y3 y4 y5 y6 y7) (dancestudiolaw58_JournalCuts.l0 (k + 1) y0 y1 y2 y3 y4 y5 y6 y7))
 | 0 => fun _ _ _ _ _ _ _ _ r h => by simp [dancestudiolaw58_JournalCuts.l0] at h
 | k + 1 => by
  have ih0 := dancestudiolaw58_JournalCuts.mono_l k
  ·intro y0 y1 y2 y3 y4 y5 y6 y7
   unfold dancestudiolaw58_JournalCuts.l0
   repeat' first
   | (with_reducible exact ih0 _ _ _ _ _ _ _ _)
   | (with_reducible exact dancestudiolaw58_awake.mono _)
   | (with_reducible exact dancestudioref58_Edits.mono _ _ _)
   | (with_reducible exact dancestudioref58_Same.mono _ _ _ _ _)
   | (with_reducible exact journal_Append.mono _ _ _ _ _ _ _ _ _ _ _ _ _ _ _)
   | (with_reducible exact journal_Recover.mono _ _ _)
   | (with_reducible exact journal_Write.mono _ _ _)
   | (with_reducible exact LeO.refl _)
   | (with_reducible exact LeO.none _)
   | (with_reducible refine LeO.ite ?_ ?_)
   | (with_reducible refine LeO.bind ?_ (fun _ => ?_))
   | exact ih0 _ _ _ _ _ _ _ _
   | exact dancestudiolaw58_awake.mono _
   | exact dancestudioref58_Edits.mono _ _ _
   | exact dancestudioref58_Same.mono _ _ _ _ _
   | exact journal_Append.mono _ _ _ _ _ _ _ _ _ _ _ _ _ _ _
   | exact journal_Recover.mono _ _ _
   | exact journal_Write.mono _ _ _
   | exact LeO.none _
   | refine LeO.ite ?_ ?_
   | refine LeO.bind ?_ (fun _ => ?_)
theorem dancestudiolaw58_JournalCuts.mono : ∀ a0 a1 a2 k, LeO (dancestudiolaw58_JournalCuts.f k a0 a1 a2) (dancestudiolaw58_JournalCuts.f (k + 1) a0 a1 a2) := by
 intro a0 a1 a2 k
 have ih0 := dancestudiolaw58_JournalCuts.mono_l k
 unfold dancestudiolaw58_JournalCuts.f
 repeat' first
   | (with_reducible exact ih0 _ _ _ _ _ _ _ _)
   | (with_reducible exact dancestudiolaw58_awake.mono _)
   | (with_reducible exact dancestudioref58_Edits.mono _ _ _)
   | (with_reducible exact dancestudioref58_Same.mono _ _ _ _ _)
   | (with_reducible exact journal_Append.mono _ _ _ _ _ _ _ _ _ _ _ _ _ _ _)
   | (with_reducible exact journal_Recover.mono _ _ _)
   | (with_reducible exact journal_Write.mono _ _ _)
   | (with_reducible exact LeO.refl _)
   | (with_reducible exact LeO.none _)
   | (with_reducible refine LeO.ite ?_ ?_)
   | (with_reducible refine LeO.bind ?_ (fun _ => ?_))
   | exact ih0 _ _ _ _ _ _ _ _
   | exact dancestudiolaw58_awake.mono _
   | exact dancestudioref58_Edits.mono _ _ _
   | exact dancestudioref58_Same.mono _ _ _ _ _
   | exact journal_Append.mono _ _ _ _ _ _ _ _ _ _ _ _ _ _ _
   | exact journal_Recover.mono _ _ _
   | exact journal_Write.mono _ _ _
   | exact LeO.none _
   | refine LeO.ite ?_ ?_
   | refine LeO.bind ?_ (fun _ => ?_)
def dancestudiolaw58_JournalCuts.T19 : Bool × List (List Nat × List Nat) := (true, [([], []), ([0], [0]), ([], []), ([], []), ([2, 3], [2, 3]), ([1, 4], [1, 4]), ([5], [5]), ([6], [6]), ([6], [6]), ([6], [6]), ([], []), ([10, 7, 5, 0, 1, 2, 3, 4, 5, 6, 7, 10], [7, 10]), ([8, 11, 0, 1, 2, 3, 4, 5, 6, 7, 8, 10, 11], [8]), ([9, 12, 0, 1, 2, 3, 4, 5, 6, 7, 8, 9, 10, 11, 12], [9])])
def dancestudiolaw58_JournalCuts.B19 : List Nat := [0, 1, 0, 0, 12, 31, 63, 127, 127, 127, 0, 1279, 3583, 8191]
theorem dancestudiolaw58_JournalCuts.tab19 : rtab .any (opsOf Try.f14 19) = dancestudiolaw58_JournalCuts.T19 := by kernel_rfl
theorem dancestudiolaw58_JournalCuts.bits19 : waitsOk dancestudiolaw58_JournalCuts.T19.2 dancestudiolaw58_JournalCuts.B19 = true := by kernel_rfl
def dancestudiolaw58_JournalCuts.T21 : Bool × List (List Nat × List Nat) := (true, [([], []), ([0], [0]), ([1], [1]), ([2], [2]), ([3, 2], [2, 3]), ([2, 4], [2, 4]), ([5, 2], [5]), ([6], [6]), ([6], [6]), ([7, 8, 6], [6, 7, 8]), ([6, 9], [6, 9]), ([10, 6], [10]), ([11], [11]), ([11], [11]), ([13, 11], [11, 13]), ([12, 14, 11], [11, 12, 14]), ([11, 15], [11, 15]), ([16, 11], [16]), ([17], [17]), ([18, 17], [17, 18]), ([17], [17]), ([20, 17], [17, 20]), ([19, 21, 17], [17, 19, 21]), ([17, 22], [17, 22]), ([23, 17], [23]), ([24], [24]), ([25, 24], [24, 25]), ([24], [24]), ([27, 24], [24, 27]), ([24], [24]), ([28, 29, 24], [24, 28, 29]), ([26, 30, 24, 24], [24, 26, 30]), ([24, 31], [24, 31]), ([32, 31], [32]), ([33], [33]), ([33], [33]), ([34, 35, 33, 33], [33, 34, 35]), ([33, 36], [33, 36]), ([37, 36], [37]), ([38, 38], [38]), ([38, 39], [38, 39]), ([40, 39, 0, 1, 2, 3, 4, 5, 6, 7, 8, 9, 10, 11, 12, 13, 14, 15, 16, 17, 18, 19, 20, 21, 22, 23, 24, 25, 26, 27, 28, 29, 30, 31, 32, 33, 34, 35, 36, 37, 38, 39, 40], [40])])
def dancestudiolaw58_JournalCuts.B21 : List Nat := [0, 1, 3, 7, 15, 31, 63, 127, 127, 511, 1023, 2047, 4095, 4095, 12287, 32767, 65535, 131071, 262143, 524287, 262143, 1310719, 4194303, 8388607, 16777215, 33554431, 67108863, 33554431, 167772159, 33554431, 973078527, 2147483647, 4294967295, 8589934591, 17179869183, 17179869183, 68719476735, 137438953471, 274877906943, 549755813887, 1099511627775, 2199023255551]
theorem dancestudiolaw58_JournalCuts.tab21 : rtab .any (opsOf Try.f14 21) = dancestudiolaw58_JournalCuts.T21 := by kernel_rfl
theorem dancestudiolaw58_JournalCuts.bits21 : waitsOk dancestudiolaw58_JournalCuts.T21.2 dancestudiolaw58_JournalCuts.B21 = true := by kernel_rfl
set_option maxHeartbeats 8000000 in
set_option maxRecDepth 100000 in
theorem dancestudiolaw58_JournalCuts.calls (k : Nat) (a0_0 : Int) (A0_1 : Option Addr) (c0_1 : Nat) (l0_1 : List (S30)) (a1 : Int) (r : Bool) (w : World) (hr0_1 : Kd.C k30 w A0_1 l0_1.length l0_1) (hc0_1 : l0_1.length ≤ c0_1) (h : dancestudiolaw58_JournalCuts.f k a0_0 l0_1 a1 = some r) :
  Calls Try.prog 14 #[.agg #[.int .i64 a0_0, .slice A0_1 l0_1.length c0_1], .int .u16 a1] w fun e w' => e = .returned (.bool r) ∧ Below w.heap.size w w' := by
 have hu24 := Try.underlying24
 have hu30 := Try.underlying30
 have HR0_1 := Aside0.mk hr0_1
 have HC0_1 := Aside0.mk hc0_1
 clear hr0_1 hc0_1
 have HB := Aside0.mk (Below.refl w.heap.size w)
 have H : (if (l0_1.length : Int) > 40 then ((dancestudiolaw58_awake.f k).bind fun t1491 => (some t1491)) else ((replica_Check.f a0_0 l0_1).bind fun t1492 => (if t1492 = 0 then ((journal_Write.f k a0_0 l0_1).bind fun bt1493 => (if bt1493.2 = 0 then (if (wrap64 ((bt1493.1.length : Int) + 1)) = 0 then (none) else (dancestudiolaw58_JournalCuts.l0 k bt1493.1 (Int.tmod (wrap64 (a1)) (wrap64 ((bt1493.1.length : Int) + 1))) ([] : List Int) 0 0 0 a0_0 l0_1)) else (none))) else ((dancestudiolaw58_awake.f k).bind fun t1528 => (some t1528))))) = some r := h
 clear h
 by_cases c3 : (l0_1.length : Int) > 40
 ·rw [if_pos c3] at H
  have c3b0 : decide (40 < (l0_1.length : Int)) = true := decide_eq_true c3
  have c3b1 : decide (40 < l0_1.length) = true := decide_eq_true (by omega)
  clear c3
  replace H := Option.bind_eq_some_iff.mp H
  obtain ⟨t1491, A40, H⟩ := H
  replace H : (some t1491) = some r := H
  have A4 := Aside0.mk A40
  clear A40
  obtain rfl := Option.some.inj H
  go_enter Try.func14, Try.ntmps14
  go_wp2_with (first | ((with_reducible refine gate_dst (N := 2) rfl ?_); (try (refine gate_guard (by rfl) ?_; dsimp only)); refine box_event ?hg (N := 2) ?hd (cs := #[.int .i64 a0_0, .slice A0_1 l0_1.length c0_1]) (t := 24) ?hr ?_; (case hd => rfl); (case hg => rfl); (case hr => first | (go_simp; done) | (go_simp; rfl)); intro gb1490 hg w5 hbox hb; have n0_ := Aside0.mk (below_step (hU HB.out) hb); have n1_ := Aside0.mk (hbox); have n2_ := Aside0.mk ((by rw [hg]; exact (below_size (hU HB.out)) : w.heap.size ≤ gb1490)); have n3_ := Aside0.mk ((by rw [hg]; exact (below_size (hU HB.out)) : w.heap.size ≤ gb1490)); clear HB; have HB := n0_; have BK1490 := n1_; have GW1490 := n2_; have GE1490 := n3_; clear n0_ n1_ n2_ n3_; clear hb hbox hg; have hcz6_0 := blk_cell BK1490.out; have hfz6_0 := blk_frozen BK1490.out) | ((with_reducible refine gate_callee (f := 37) rfl ?_); refine goesL_ (some 26) rfl rfl Try.func37 (by kernel_rfl) rfl #[] rfl (by (try simp only [List.map_toArray, List.map_cons, List.map_nil]); first | done | rfl | (simp only [List.length_drop, List.length_take]; rfl)) ?_; (with_reducible refine (dancestudiolaw58_awake.calls k  t1491 _ A4.out).mono ?_); rintro e w7 ⟨rfl, hb⟩; refine ⟨_, rfl, ?_⟩; replace BK1490 := Aside0.mk (blk_below (bU BK1490.out) hb); replace HB := Aside0.mk (below_step (hU HB.out) hb); (try clear hb); (try clear hb2); (try clear hk); (try clear hi)))
  go_ret
  exact ⟨by first | rfl | (simp [errW_none, errW_some] <;> rfl) | (simp [*, errW_none, errW_some] <;> rfl), hU HB.out⟩
 ·rw [if_neg c3] at H
  have c3b0 : decide (40 < (l0_1.length : Int)) = false := decide_eq_false c3
  have c3b1 : decide (40 < l0_1.length) = false := decide_eq_false (by omega)
  clear c3
  replace H := Option.bind_eq_some_iff.mp H
  obtain ⟨t1492, A80, H⟩ := H
  try dsimp only at H
  have A8 := Aside0.mk A80
  clear A80
  by_cases c9 : t1492 = 0
  ·rw [if_pos c9] at H
   have c9b0 : (t1492 == 0) = true := beq_iff_eq.mpr c9
   have c9b1 : (t1492 != 0) = false := bne_eq_false_iff_eq.mpr c9
   clear c9
   replace H := Option.bind_eq_some_iff.mp H
   obtain ⟨⟨t1493, t1496⟩, A100, H⟩ := H
   try dsimp only at H
   have A10 := Aside0.mk A100
   clear A100
   by_cases c11 : t1496 = 0
   rotate_left
   ·rw [if_neg c11] at H
    exact absurd H (by simp)
   rw [if_pos c11] at H
   have c11b0 : (t1496 == 0) = true := beq_iff_eq.mpr c11
   have c11b1 : (t1496 != 0) = false := bne_eq_false_iff_eq.mpr c11
   clear c11
   by_cases c12 : (wrap64 ((t1493.length : Int) + 1)) = 0
   ·rw [if_pos c12] at H
    exact absurd H (by simp)
   rw [if_neg c12] at H
   have c12b0 : ((wrap64 ((t1493.length : Int) + 1)) == 0) = false := beq_eq_false_iff_ne.mpr c12
   have c12b1 : ((wrap64 ((t1493.length : Int) + 1)) != 0) = true := bne_iff_ne.mpr c12
   have H' := Aside0.mk H
   clear H
   go_enter Try.func14, Try.ntmps14
   go_wp2_with (first | ((with_reducible refine gate_dst (N := 2) rfl ?_); (try (refine gate_guard (by rfl) ?_; dsimp only)); refine box_event ?hg (N := 2) ?hd (cs := #[.int .i64 a0_0, .slice A0_1 l0_1.length c0_1]) (t := 24) ?hr ?_; (case hd => rfl); (case hg => rfl); (case hr => first | (go_simp; done) | (go_simp; rfl)); intro gb1490 hg w13 hbox hb; have n0_ := Aside0.mk (below_step (hU HB.out) hb); have n1_ := Aside0.mk (hbox); have n2_ := Aside0.mk ((by rw [hg]; exact (below_size (hU HB.out)) : w.heap.size ≤ gb1490)); have n3_ := Aside0.mk ((by rw [hg]; exact (below_size (hU HB.out)) : w.heap.size ≤ gb1490)); clear HB; have HB := n0_; have BK1490 := n1_; have GW1490 := n2_; have GE1490 := n3_; clear n0_ n1_ n2_ n3_; clear hb hbox hg; have hcz14_0 := blk_cell BK1490.out; have hfz14_0 := blk_frozen BK1490.out) | (go_at_call 29; (with_reducible refine (replica_Check.calls a0_0 _ _ l0_1 t1492 _ ?side1 ?side2 A8.out).mono ?_); (case side1 => repeat (first | exact (Kd.C_below HR0_1.out HB.out) | (with_reducible refine Kd.C_alloc ?_ _) | (with_reducible refine Kd.C_drewN ?_ _) | (with_reducible refine Kd.C_drew ?_))); (case side2 => exact HC0_1.out); rintro e w15 ⟨rfl, hb⟩; replace BK1490 := Aside0.mk (blk_below (bU BK1490.out) hb); replace HB := Aside0.mk (below_step (hU HB.out) hb); (try clear hb); (try clear hb2); (try clear hk); (try clear hi); have hcz16_0 := blk_cell BK1490.out; have hfz16_0 := blk_frozen BK1490.out) | ((with_reducible refine gate_callee (f := 44) rfl ?_); refine goesL_ (some 29) rfl rfl Try.func44 (by kernel_rfl) rfl #[.agg #[.int .i64 a0_0, .slice A0_1 l0_1.length c0_1]] rfl (by (try simp only [List.map_toArray, List.map_cons, List.map_nil]); first | done | rfl | (simp only [List.length_drop, List.length_take]; rfl)) ?_; (with_reducible refine (journal_Write.calls k a0_0 _ _ l0_1 t1493 t1496 _ ?side1 ?side2 A10.out).mono ?_); (case side1 => repeat (first | exact (Kd.C_below HR0_1.out HB.out) | (with_reducible refine Kd.C_alloc ?_ _) | (with_reducible refine Kd.C_drewN ?_ _) | (with_reducible refine Kd.C_drew ?_))); (case side2 => exact HC0_1.out); rintro e w17 ⟨v1494, rfl, ho0, hb⟩; refine ⟨_, rfl, ?_⟩; replace HO1495 := Aside0.mk (Kd.R_lower ho0 (below_size (hU HB.out))); replace BK1490 := Aside0.mk (blk_below (bU BK1490.out) hb); replace HB := Aside0.mk (below_step (hU HB.out) hb); (try clear hb); (try clear hb2); (try clear hk); (try clear hi); (try clear ho0); obtain ⟨Ao18, co18, eo18⟩ := Kd.R_slice HO1495.out; subst eo18))
   go_loopg [8, 9, 10, 11] k (fun kq v8 v9 v10 v11 w' => ∃ (x8_1 : List Int) (x9_1 : Int) (x10_1 : Int) (x11_1 : Int), v9 = .int .i64 x9_1 ∧ v10 = .int .i64 x10_1 ∧ v11 = .int .i64 x11_1 ∧ Aside0 (dancestudiolaw58_JournalCuts.l0 kq t1493 (Int.tmod (wrap64 (a1)) (wrap64 ((t1493.length : Int) + 1))) x8_1 x9_1 x10_1 x11_1 a0_0 l0_1 = some r) ∧ Aside0 (kq ≤ k) ∧ Aside0 (Kd.R (Kd.int .u8) 5 w' w.heap.size (fun k_ => some k_ ≠ (v8 : Value).ownBlock) (.slice Ao18 t1493.length co18) t1493) ∧ Aside0 (Kd.R (Kd.int .u8) 5 w' w.heap.size (fun k_ => some k_ ≠ ((.slice Ao18 t1493.length co18) : Value).ownBlock) v8 x8_1) ∧ Aside0 (w'.heap[gb1490]? = some (.cells #[.int .i64 a0_0, (.slice A0_1 l0_1.length c0_1)] 24 (0, 0))) ∧ Aside0 (Below w.heap.size w w'))
   case atStart => exact ⟨(([] : List Int)), (0), (0), (0), (by first | rfl | (simp; done) | (simp [*]; done)), (by first | rfl | (simp; done) | (simp [*]; done)), (by first | rfl | (simp; done) | (simp [*]; done)), H', ⟨Nat.le_refl _⟩, ⟨by (with_reducible repeat (first | apply Kd.R_alloc | apply Kd.R_drewN | apply Kd.R_drew)); exact Kd.R_mono HO1495.out (fun _ hk => (by simp [Value.ownBlock]))⟩, ⟨by first | exact Kd.R_nil _ _ _ _ _ | exact Kd.N_nil _ _ _ _ _ | exact Kd.V_nil _ _ _ _ _ | exact Kd.Q_nil _ _ _ _ _ | exact Kd.S_nil _ _ _ _ _⟩, ⟨by (with_reducible repeat (first | refine blk_drewN ?_ _ | refine blk_drew ?_ | refine blk_alloc ?_ _)); exact BK1490.out⟩, ⟨hU HB.out⟩⟩
   case round =>
    clear H'
    try clear c1
    try clear p2
    try clear c3
    try clear c3b0
    try clear c3b1
    try clear c4
    try clear p6
    try clear c9
    try clear c9b0
    try clear c9b1
    try clear c11
    try clear c11b0
    try clear c11b1
    try clear c12
    try clear c12b0
    try clear c12b1
    try clear c14
    try clear hcz14_0
    try clear hcz14_1
    try clear hcz16_0
    try clear hcz16_1
    try clear hcz6_0
    try clear hcz6_1
    try clear hfz14_0
    try clear hfz14_1
    try clear hfz16_0
    try clear hfz16_1
    try clear hfz6_0
    try clear hfz6_1
    obtain ⟨x8_1, x9_1, x10_1, x11_1, rfl, rfl, rfl, HA, HK1, HO_5, HO_8, BK1490, HB⟩ := hrel
    cases gk with
    | zero => exact absurd HA.out (by simp [dancestudiolaw58_JournalCuts.l0])
    | succ k1 =>
     have H := HA.out
     clear HA
     simp only [dancestudiolaw58_JournalCuts.l0] at H
     by_cases c19 : x11_1 < (l0_1.length : Int)
     ·rw [if_pos c19] at H
      have c19b0 : decide (x11_1 < (l0_1.length : Int)) = true := decide_eq_true c19
      clear c19
      by_cases c20 : 0 ≤ x11_1
      rotate_left
      ·rw [if_neg c20] at H
       exact absurd H (by simp)
      rw [if_pos c20] at H
      have c20b0 : decide (0 ≤ x11_1) = true := decide_eq_true c20
      clear c20
      replace H := Option.bind_eq_some_iff.mp H
      obtain ⟨⟨t1498, t1501⟩, A210, H⟩ := H
      try dsimp only at H
      have A21 := Aside0.mk A210
      clear A210
      by_cases c22 : t1501 = 0
      rotate_left
      ·rw [if_neg c22] at H
       exact absurd H (by simp)
      rw [if_pos c22] at H
      have c22b0 : (t1501 == 0) = true := beq_iff_eq.mpr c22
      have c22b1 : (t1501 != 0) = false := bne_eq_false_iff_eq.mpr c22
      clear c22
      by_cases c23 : (t1498.length : Int) ≤ (Int.tmod (wrap64 (a1)) (wrap64 ((t1493.length : Int) + 1)))
      ·rw [if_pos c23] at H
       have c23b0 : decide ((t1498.length : Int) ≤ (Int.tmod (wrap64 (a1)) (wrap64 ((t1493.length : Int) + 1)))) = true := decide_eq_true c23
       clear c23
       have H' := Aside0.mk H
       clear H
       have hcz24_0 := blk_cell BK1490.out
       have hfz24_0 := blk_frozen BK1490.out
       have p1497 : 0 ≤ (x11_1 : Int) := of_decide_eq_true (by first | (with_reducible assumption) | assumption)
       have q1497 : x11_1 < (l0_1.length : Int) := of_decide_eq_true (by first | (with_reducible assumption) | assumption)
       obtain ⟨ad1497, e1497, hx1497_0, hx1497_1, hx1497_2, hx1497_3, hx1497_4, hx1497_5, hx1497_6, hx1497_7, hx1497_8, hx1497_9, hx1497_10, hx1497_11, hx1497_12⟩ := at_T30 HR0_1.out x11_1 p1497 q1497
       cases e1497
       replace hx1497_0 := hbC HB hx1497_0
       replace hx1497_1 := hbC HB hx1497_1
       replace hx1497_2 := hbC HB hx1497_2
       replace hx1497_3 := hbC HB hx1497_3
       replace hx1497_4 := hbC HB hx1497_4
       replace hx1497_5 := hbC HB hx1497_5
       replace hx1497_6 := hbC HB hx1497_6
       replace hx1497_7 := hbC HB hx1497_7
       replace hx1497_8 := hbC HB hx1497_8
       replace hx1497_9 := hbC HB hx1497_9
       replace hx1497_10 := hbC HB hx1497_10
       replace hx1497_11 := hbC HB hx1497_11
       replace hx1497_12 := hbC HB hx1497_12
       replace p1497 := eq_true p1497
       replace q1497 := eq_true q1497
       obtain ⟨Ao25, co25, eo25⟩ := Kd.R_slice HO_8.out
       subst eo25
       go_wp2_with (first | ((with_reducible refine gate_callee (f := 38) rfl ?_); refine goesL_ (some 54) rfl rfl Try.func38 (by kernel_rfl) rfl #[.slice Ao25 x8_1.length co25, .agg #[.int .i64 ((rd_T30 l0_1 x11_1).f0.f0), .int .i64 ((rd_T30 l0_1 x11_1).f0.f1), .int .i64 ((rd_T30 l0_1 x11_1).f1), .int .i64 ((rd_T30 l0_1 x11_1).f2.f0), .int .i64 ((rd_T30 l0_1 x11_1).f2.f1), .bool ((rd_T30 l0_1 x11_1).f3), .int .i64 ((rd_T30 l0_1 x11_1).f4.f0), .int .i64 ((rd_T30 l0_1 x11_1).f4.f1), .int .i64 ((rd_T30 l0_1 x11_1).f4.f2), .int .i64 ((rd_T30 l0_1 x11_1).f4.f3), .int .i64 ((rd_T30 l0_1 x11_1).f4.f4), .int .i64 ((rd_T30 l0_1 x11_1).f4.f5), .int .i64 ((rd_T30 l0_1 x11_1).f4.f6)]] rfl (by (try simp only [List.map_toArray, List.map_cons, List.map_nil]); first | done | rfl | (simp only [List.length_drop, List.length_take]; rfl)) ?_; (with_reducible refine (journal_Append.calls k1 _ _ x8_1 ((rd_T30 l0_1 x11_1).f0.f0) ((rd_T30 l0_1 x11_1).f0.f1) ((rd_T30 l0_1 x11_1).f1) ((rd_T30 l0_1 x11_1).f2.f0) ((rd_T30 l0_1 x11_1).f2.f1) ((rd_T30 l0_1 x11_1).f3) ((rd_T30 l0_1 x11_1).f4.f0) ((rd_T30 l0_1 x11_1).f4.f1) ((rd_T30 l0_1 x11_1).f4.f2) ((rd_T30 l0_1 x11_1).f4.f3) ((rd_T30 l0_1 x11_1).f4.f4) ((rd_T30 l0_1 x11_1).f4.f5) ((rd_T30 l0_1 x11_1).f4.f6) t1498 t1501 _ ?side1 ?side2 A21.out).mono ?_); (case side1 => repeat (first | exact (Kd.R_reads' HO_8.out).2.2 | (with_reducible refine Kd.C_alloc ?_ _) | (with_reducible refine Kd.C_drewN ?_ _) | (with_reducible refine Kd.C_drew ?_))); (case side2 => exact (Kd.R_reads' HO_8.out).2.1); rintro e w26 ⟨v1499, rfl, ho0, hb⟩; refine ⟨_, rfl, ?_⟩; replace HO1500 := Aside0.mk (Kd.R_lower (Kd.R_new' (Kd.R_new' ho0 (Kd.R_lt (Kd.rU HO_5.out))) (Kd.R_lt (Kd.rU HO_8.out))) (below_size (hU HB.out))); replace HO_5 := Aside0.mk (Kd.R_elder' (Kd.rU HO_5.out) (Kd.R_base ho0) hb); replace HO_8 := Aside0.mk (Kd.R_elder' (Kd.rU HO_8.out) (Kd.R_base ho0) hb); replace BK1490 := Aside0.mk (blk_below (bU BK1490.out) hb); replace HB := Aside0.mk (below_step (hU HB.out) hb); (try clear hb); (try clear hb2); (try clear hk); (try clear hi); (try clear ho0); obtain ⟨Ao27, co27, eo27⟩ := Kd.R_slice HO1500.out; subst eo27))
       go_roundg k1
       case measure => have := HK1.out; omega
       case rel => exact ⟨(t1498), ((t1498.length : Int)), (wrap64 (x11_1 + 1)), (wrap64 (x11_1 + 1)), (by first | rfl | (simp; done) | (simp [*]; done)), (by first | rfl | (simp; done) | (simp [*]; done)), (by first | rfl | (simp; done) | (simp [*]; done)), H', ⟨by have := HK1.out; omega⟩, ⟨by (with_reducible repeat (first | apply Kd.R_alloc | apply Kd.R_drewN | apply Kd.R_drew)); exact Kd.R_mono HO_5.out (fun _ hk => hk.2)⟩, ⟨by (with_reducible repeat (first | apply Kd.R_alloc | apply Kd.R_drewN | apply Kd.R_drew)); exact Kd.R_mono HO1500.out (fun _ hk => hk.1.2)⟩, ⟨by (with_reducible repeat (first | refine blk_drewN ?_ _ | refine blk_drew ?_ | refine blk_alloc ?_ _)); exact BK1490.out⟩, ⟨hU HB.out⟩⟩
      ·rw [if_neg c23] at H
       have c23b0 : decide ((t1498.length : Int) ≤ (Int.tmod (wrap64 (a1)) (wrap64 ((t1493.length : Int) + 1)))) = false := decide_eq_false c23
       clear c23
       have H' := Aside0.mk H
       clear H
       have hcz28_0 := blk_cell BK1490.out
       have hfz28_0 := blk_frozen BK1490.out
       have p1497 : 0 ≤ (x11_1 : Int) := of_decide_eq_true (by first | (with_reducible assumption) | assumption)
       have q1497 : x11_1 < (l0_1.length : Int) := of_decide_eq_true (by first | (with_reducible assumption) | assumption)
       obtain ⟨ad1497, e1497, hx1497_0, hx1497_1, hx1497_2, hx1497_3, hx1497_4, hx1497_5, hx1497_6, hx1497_7, hx1497_8, hx1497_9, hx1497_10, hx1497_11, hx1497_12⟩ := at_T30 HR0_1.out x11_1 p1497 q1497
       cases e1497
       replace hx1497_0 := hbC HB hx1497_0
       replace hx1497_1 := hbC HB hx1497_1
       replace hx1497_2 := hbC HB hx1497_2
       replace hx1497_3 := hbC HB hx1497_3
       replace hx1497_4 := hbC HB hx1497_4
       replace hx1497_5 := hbC HB hx1497_5
       replace hx1497_6 := hbC HB hx1497_6
       replace hx1497_7 := hbC HB hx1497_7
       replace hx1497_8 := hbC HB hx1497_8
       replace hx1497_9 := hbC HB hx1497_9
       replace hx1497_10 := hbC HB hx1497_10
       replace hx1497_11 := hbC HB hx1497_11
       replace hx1497_12 := hbC HB hx1497_12
       replace p1497 := eq_true p1497
       replace q1497 := eq_true q1497
       obtain ⟨Ao29, co29, eo29⟩ := Kd.R_slice HO_8.out
       subst eo29
       go_wp2_with (first | ((with_reducible refine gate_callee (f := 38) rfl ?_); refine goesL_ (some 54) rfl rfl Try.func38 (by kernel_rfl) rfl #[.slice Ao29 x8_1.length co29, .agg #[.int .i64 ((rd_T30 l0_1 x11_1).f0.f0), .int .i64 ((rd_T30 l0_1 x11_1).f0.f1), .int .i64 ((rd_T30 l0_1 x11_1).f1), .int .i64 ((rd_T30 l0_1 x11_1).f2.f0), .int .i64 ((rd_T30 l0_1 x11_1).f2.f1), .bool ((rd_T30 l0_1 x11_1).f3), .int .i64 ((rd_T30 l0_1 x11_1).f4.f0), .int .i64 ((rd_T30 l0_1 x11_1).f4.f1), .int .i64 ((rd_T30 l0_1 x11_1).f4.f2), .int .i64 ((rd_T30 l0_1 x11_1).f4.f3), .int .i64 ((rd_T30 l0_1 x11_1).f4.f4), .int .i64 ((rd_T30 l0_1 x11_1).f4.f5), .int .i64 ((rd_T30 l0_1 x11_1).f4.f6)]] rfl (by (try simp only [List.map_toArray, List.map_cons, List.map_nil]); first | done | rfl | (simp only [List.length_drop, List.length_take]; rfl)) ?_; (with_reducible refine (journal_Append.calls k1 _ _ x8_1 ((rd_T30 l0_1 x11_1).f0.f0) ((rd_T30 l0_1 x11_1).f0.f1) ((rd_T30 l0_1 x11_1).f1) ((rd_T30 l0_1 x11_1).f2.f0) ((rd_T30 l0_1 x11_1).f2.f1) ((rd_T30 l0_1 x11_1).f3) ((rd_T30 l0_1 x11_1).f4.f0) ((rd_T30 l0_1 x11_1).f4.f1) ((rd_T30 l0_1 x11_1).f4.f2) ((rd_T30 l0_1 x11_1).f4.f3) ((rd_T30 l0_1 x11_1).f4.f4) ((rd_T30 l0_1 x11_1).f4.f5) ((rd_T30 l0_1 x11_1).f4.f6) t1498 t1501 _ ?side1 ?side2 A21.out).mono ?_); (case side1 => repeat (first | exact (Kd.R_reads' HO_8.out).2.2 | (with_reducible refine Kd.C_alloc ?_ _) | (with_reducible refine Kd.C_drewN ?_ _) | (with_reducible refine Kd.C_drew ?_))); (case side2 => exact (Kd.R_reads' HO_8.out).2.1); rintro e w30 ⟨v1499, rfl, ho0, hb⟩; refine ⟨_, rfl, ?_⟩; replace HO1500 := Aside0.mk (Kd.R_lower (Kd.R_new' (Kd.R_new' ho0 (Kd.R_lt (Kd.rU HO_5.out))) (Kd.R_lt (Kd.rU HO_8.out))) (below_size (hU HB.out))); replace HO_5 := Aside0.mk (Kd.R_elder' (Kd.rU HO_5.out) (Kd.R_base ho0) hb); replace HO_8 := Aside0.mk (Kd.R_elder' (Kd.rU HO_8.out) (Kd.R_base ho0) hb); replace BK1490 := Aside0.mk (blk_below (bU BK1490.out) hb); replace HB := Aside0.mk (below_step (hU HB.out) hb); (try clear hb); (try clear hb2); (try clear hk); (try clear hi); (try clear ho0); obtain ⟨Ao31, co31, eo31⟩ := Kd.R_slice HO1500.out; subst eo31))
       go_roundg k1
       case measure => have := HK1.out; omega
       case rel => exact ⟨(t1498), (x9_1), (x10_1), (wrap64 (x11_1 + 1)), (by first | rfl | (simp; done) | (simp [*]; done)), (by first | rfl | (simp; done) | (simp [*]; done)), (by first | rfl | (simp; done) | (simp [*]; done)), H', ⟨by have := HK1.out; omega⟩, ⟨by (with_reducible repeat (first | apply Kd.R_alloc | apply Kd.R_drewN | apply Kd.R_drew)); exact Kd.R_mono HO_5.out (fun _ hk => hk.2)⟩, ⟨by (with_reducible repeat (first | apply Kd.R_alloc | apply Kd.R_drewN | apply Kd.R_drew)); exact Kd.R_mono HO1500.out (fun _ hk => hk.1.2)⟩, ⟨by (with_reducible repeat (first | refine blk_drewN ?_ _ | refine blk_drew ?_ | refine blk_alloc ?_ _)); exact BK1490.out⟩, ⟨hU HB.out⟩⟩
     ·rw [if_neg c19] at H
      have c19b0 : decide (x11_1 < (l0_1.length : Int)) = false := decide_eq_false c19
      clear c19
      replace H := Option.bind_eq_some_iff.mp H
      obtain ⟨t1502, A320, H⟩ := H
      try dsimp only at H
      have A32 := Aside0.mk A320
      clear A320
      by_cases c33 : t1502 = true
      rotate_left
      ·replace c33 := Bool.eq_false_iff.mpr c33
       subst c33
       have H1 : (none) = some r := by rw [if_neg (show ¬ (false = true) by decide)] at H; exact H
       clear H
       have H := H1
       clear H1
       exact absurd H (by simp)
      subst c33
      rw [if_pos rfl] at H
      obtain ⟨ji34, hji34⟩ : ∃ j_ : Int, (Int.tmod (wrap64 (a1)) (wrap64 ((t1493.length : Int) + 1))) = j_ := ⟨_, rfl⟩
      replace H : (if 0 ≤ (ji34) then (if (ji34) ≤ (t1493.length : Int) then ((journal_Recover.f k1 a0_0 (t1493.take ((ji34) : Int).toNat)).bind fun bt1507 => ((journal_Recover.f k1 a0_0 t1493).bind fun bt1514 => (if bt1507.2.2.2 = 0 then (if bt1514.2.2.2 = 0 then (if bt1507.2.2.1 = x9_1 then (if bt1514.2.2.1 = (t1493.length : Int) then (if bt1507.1 = a0_0 then (if 0 ≤ x10_1 then (if x10_1 ≤ (l0_1.length : Int) then ((dancestudioref58_Edits.f k1 bt1507.2.1 (l0_1.take (x10_1 : Int).toNat)).bind fun t1525 => (if t1525 = true then ((dancestudioref58_Same.f k1 bt1514.1 bt1514.2.1 a0_0 l0_1).bind fun t1526 => (if t1526 = true then ((dancestudiolaw58_awake.f k1).bind fun t1527 => (some t1527)) else (none))) else (none))) else (none)) else (none)) else (none)) else (none)) else (none)) else (none)) else (none)))) else (none)) else (none)) = some r := by first | (rw [hji34] at H; exact H) | (simp only [hji34] at H ⊢; exact H)
      (try rw [hji34] at A32)
      by_cases c35 : 0 ≤ (ji34)
      rotate_left
      ·rw [if_neg c35] at H
       exact absurd H (by simp)
      rw [if_pos c35] at H
      have c35b0 := eq_true c35
      have c35b1 : decide (0 ≤ (ji34)) = true := decide_eq_true c35
      clear c35
      by_cases c36 : (ji34) ≤ (t1493.length : Int)
      rotate_left
      ·rw [if_neg c36] at H
       exact absurd H (by simp)
      rw [if_pos c36] at H
      have c36b0 := eq_true c36
      have c36b1 : decide ((ji34) ≤ (t1493.length : Int)) = true := decide_eq_true c36
      clear c36
      obtain ⟨y1503, hy1503⟩ : ∃ y_ : List Int, y_ = (t1493.take ((ji34) : Int).toNat) := ⟨_, rfl⟩
      replace H : ((journal_Recover.f k1 a0_0 y1503).bind fun bt1507 => ((journal_Recover.f k1 a0_0 t1493).bind fun bt1514 => (if bt1507.2.2.2 = 0 then (if bt1514.2.2.2 = 0 then (if bt1507.2.2.1 = x9_1 then (if bt1514.2.2.1 = (t1493.length : Int) then (if bt1507.1 = a0_0 then (if 0 ≤ x10_1 then (if x10_1 ≤ (l0_1.length : Int) then ((dancestudioref58_Edits.f k1 bt1507.2.1 (l0_1.take (x10_1 : Int).toNat)).bind fun t1525 => (if t1525 = true then ((dancestudioref58_Same.f k1 bt1514.1 bt1514.2.1 a0_0 l0_1).bind fun t1526 => (if t1526 = true then ((dancestudiolaw58_awake.f k1).bind fun t1527 => (some t1527)) else (none))) else (none))) else (none)) else (none)) else (none)) else (none)) else (none)) else (none)) else (none)))) = some r := by first | (rw [hy1503]; with_reducible exact H) | (have H2_ := (Option.bind_some _ _).symm.trans H; rw [hy1503]; with_reducible exact H2_) | (have H2_ := (Option.bind_some _ _).symm.trans H; with_reducible exact H2_) | with_reducible exact H | (rw [hy1503]; exact H) | exact H
      have Ny1503 := Aside0.mk hy1503
      clear hy1503
      replace H := Option.bind_eq_some_iff.mp H
      obtain ⟨⟨t1507, t1508, t1511, t1512⟩, A370, H⟩ := H
      try dsimp only at H
      have A37 := Aside0.mk A370
      clear A370
      replace H := Option.bind_eq_some_iff.mp H
      obtain ⟨⟨t1514, t1515, t1518, t1519⟩, A380, H⟩ := H
      try dsimp only at H
      have A38 := Aside0.mk A380
      clear A380
      by_cases c39 : t1512 = 0
      rotate_left
      ·rw [if_neg c39] at H
       exact absurd H (by simp)
      rw [if_pos c39] at H
      have c39b0 : (t1512 == 0) = true := beq_iff_eq.mpr c39
      have c39b1 : (t1512 != 0) = false := bne_eq_false_iff_eq.mpr c39
      clear c39
      by_cases c40 : t1519 = 0
      rotate_left
      ·rw [if_neg c40] at H
       exact absurd H (by simp)
      rw [if_pos c40] at H
      have c40b0 : (t1519 == 0) = true := beq_iff_eq.mpr c40
      have c40b1 : (t1519 != 0) = false := bne_eq_false_iff_eq.mpr c40
      clear c40
      by_cases c41 : t1511 = x9_1
      rotate_left
      ·rw [if_neg c41] at H
       exact absurd H (by simp)
      rw [if_pos c41] at H
      have c41b0 : (t1511 == x9_1) = true := beq_iff_eq.mpr c41
      have c41b1 : (t1511 != x9_1) = false := bne_eq_false_iff_eq.mpr c41
      clear c41
      by_cases c42 : t1518 = (t1493.length : Int)
      rotate_left
      ·rw [if_neg c42] at H
       exact absurd H (by simp)
      rw [if_pos c42] at H
      have c42b0 : (t1518 == (t1493.length : Int)) = true := beq_iff_eq.mpr c42
      have c42b1 : (t1518 != (t1493.length : Int)) = false := bne_eq_false_iff_eq.mpr c42
      clear c42
      by_cases c43 : t1507 = a0_0
      rotate_left
      ·rw [if_neg c43] at H
       exact absurd H (by simp)
      rw [if_pos c43] at H
      have c43b0 : (t1507 == a0_0) = true := beq_iff_eq.mpr c43
      have c43b1 : (t1507 != a0_0) = false := bne_eq_false_iff_eq.mpr c43
      clear c43
      by_cases c44 : 0 ≤ x10_1
      rotate_left
      ·rw [if_neg c44] at H
       exact absurd H (by simp)
      rw [if_pos c44] at H
      have c44b0 := eq_true c44
      have c44b1 : decide (0 ≤ x10_1) = true := decide_eq_true c44
      clear c44
      by_cases c45 : x10_1 ≤ (l0_1.length : Int)
      rotate_left
      ·rw [if_neg c45] at H
       exact absurd H (by simp)
      rw [if_pos c45] at H
      have c45b0 := eq_true c45
      have c45b1 : decide (x10_1 ≤ (l0_1.length : Int)) = true := decide_eq_true c45
      clear c45
      obtain ⟨y1521, hy1521⟩ : ∃ y_ : List (S30), y_ = (l0_1.take (x10_1 : Int).toNat) := ⟨_, rfl⟩
      replace H : ((dancestudioref58_Edits.f k1 t1508 y1521).bind fun t1525 => (if t1525 = true then ((dancestudioref58_Same.f k1 t1514 t1515 a0_0 l0_1).bind fun t1526 => (if t1526 = true then ((dancestudiolaw58_awake.f k1).bind fun t1527 => (some t1527)) else (none))) else (none))) = some r := by first | (rw [hy1521]; with_reducible exact H) | (have H2_ := (Option.bind_some _ _).symm.trans H; rw [hy1521]; with_reducible exact H2_) | (have H2_ := (Option.bind_some _ _).symm.trans H; with_reducible exact H2_) | with_reducible exact H | (rw [hy1521]; exact H) | exact H
      have Ny1521 := Aside0.mk hy1521
      clear hy1521
      replace H := Option.bind_eq_some_iff.mp H
      obtain ⟨t1525, A460, H⟩ := H
      try dsimp only at H
      have A46 := Aside0.mk A460
      clear A460
      by_cases c47 : t1525 = true
      rotate_left
      ·replace c47 := Bool.eq_false_iff.mpr c47
       subst c47
       have H1 : (none) = some r := by rw [if_neg (show ¬ (false = true) by decide)] at H; exact H
       clear H
       have H := H1
       clear H1
       exact absurd H (by simp)
      subst c47
      rw [if_pos rfl] at H
      replace H := Option.bind_eq_some_iff.mp H
      obtain ⟨t1526, A480, H⟩ := H
      replace H : (if t1526 = true then ((dancestudiolaw58_awake.f k1).bind fun t1527 => (some t1527)) else (none)) = some r := H
      have A48 := Aside0.mk A480
      clear A480
      by_cases c49 : t1526 = true
      rotate_left
      ·replace c49 := Bool.eq_false_iff.mpr c49
       subst c49
       have H1 : (none) = some r := by rw [if_neg (show ¬ (false = true) by decide)] at H; exact H
       clear H
       have H := H1
       clear H1
       exact absurd H (by simp)
      subst c49
      have H1 : ((dancestudiolaw58_awake.f k1).bind fun t1527 => (some t1527)) = some r := by rw [if_pos rfl] at H; exact H
      clear H
      have H := H1
      clear H1
      replace H := Option.bind_eq_some_iff.mp H
      obtain ⟨t1527, A500, H⟩ := H
      replace H : (some t1527) = some r := H
      have A50 := Aside0.mk A500
      clear A500
      obtain rfl := Option.some.inj H
      have hcz51_0 := blk_cell BK1490.out
      have hfz51_0 := blk_frozen BK1490.out
      obtain ⟨Ao52, co52, eo52⟩ := Kd.R_slice HO_8.out
      subst eo52
      try go_wp2_with (first | ((with_reducible refine gate_callee (f := 40) rfl ?_); refine goesL_ (some 69) rfl rfl Try.func40 (by kernel_rfl) rfl #[.slice Ao52 x8_1.length co52, .slice Ao18 t1493.length co18] rfl (by (try simp only [List.map_toArray, List.map_cons, List.map_nil]); first | done | rfl | (simp only [List.length_drop, List.length_take]; rfl)) ?_; (with_reducible refine (dancestudioref58_Bytes.calls _ _ x8_1 _ _ t1493 true _ ?side1 ?side2 ?side3 ?side4 A32.out).mono ?_); (case side1 => repeat (first | exact (Kd.R_reads' HO_8.out).2.2 | (with_reducible refine Kd.C_alloc ?_ _) | (with_reducible refine Kd.C_drewN ?_ _) | (with_reducible refine Kd.C_drew ?_))); (case side2 => exact (Kd.R_reads' HO_8.out).2.1); (case side3 => repeat (first | exact (Kd.R_reads' HO_5.out).2.2 | (with_reducible refine Kd.C_alloc ?_ _) | (with_reducible refine Kd.C_drewN ?_ _) | (with_reducible refine Kd.C_drew ?_))); (case side4 => exact (Kd.R_reads' HO_5.out).2.1); rintro e w' ⟨rfl, ⟨nd, rfl⟩⟩; refine ⟨_, rfl, ?_⟩; (try (rw [drewN_self wr]; generalize hq_ : World.drewN wr _ = wr; have n0_ : Aside0 (Kd.R (Kd.int .u8) 5 wr w.heap.size (fun k_ => some k_ ≠ (.slice Ao52 x8_1.length co52 : Value).ownBlock) (.slice Ao18 t1493.length co18) t1493) := ⟨by rw [← hq_]; exact (Kd.rU HO_5.out)⟩; have n1_ : Aside0 (Kd.R (Kd.int .u8) 5 wr w.heap.size (fun k_ => some k_ ≠ (.slice Ao18 t1493.length co18 : Value).ownBlock) (.slice Ao52 x8_1.length co52) x8_1) := ⟨by rw [← hq_]; exact (Kd.rU HO_8.out)⟩; have n2_ : Aside0 (wr.heap[gb1490]? = some (.cells #[.int .i64 a0_0, .slice A0_1 l0_1.length c0_1] 24 (0, 0))) := ⟨by rw [← hq_]; exact (bU BK1490.out)⟩; have n3_ : Aside0 (Below w.heap.size w wr) := ⟨by rw [← hq_]; exact (hU HB.out)⟩; clear HO_5 HO_8 BK1490 HB hq_; have HO_5 := n0_; have HO_8 := n1_; have BK1490 := n2_; have HB := n3_; clear n0_ n1_ n2_ n3_)); (try have hcy1490 := blk_cell BK1490.out); (try have hfy1490 := blk_frozen BK1490.out)))
      replace HO_5 := Aside0.mk (Kd.R_drew HO_5.out)
      replace HO_8 := Aside0.mk (Kd.R_drew HO_8.out)
      replace BK1490 := Aside0.mk (blk_drew BK1490.out)
      replace HB := Aside0.mk (below_drew1 HB.out)
      have q54 : ((ji34) : Int) ≤ ((t1493.length : Int) : Int) := of_decide_eq_true (by first | (with_reducible assumption) | assumption)
      obtain ⟨i054, hi054, _, hsz54, _⟩ := info_parts info5
      have hroom54 : t1493.length ≤ co18 := (Kd.R_reads' HO_5.out).2.1
      have hC54 : Kd.C (Kd.int .u8) _ Ao18 t1493.length t1493 := (Kd.R_reads' HO_5.out).2.2
      have hcut54 := cut_to (P := Try.prog) 60 5 .i64 Try.underlying60 hi054 Ao18 t1493.length co18 (ji34) (of_decide_eq_true (by first | (with_reducible assumption) | assumption)) q54 hroom54
      have hr54 := Kd.C_take (m := ((ji34) : Int).toNat) hC54 (by omega)
      have hy54 : y1503.length = ((ji34) : Int).toNat := (by rw [Ny1503.out, List.length_take]; omega)
      rw [← Ny1503.out] at hr54
      rw [← hy54] at hcut54
      have HR1506 := Aside0.mk hr54
      have HC1506 := Aside0.mk (show y1503.length ≤ co18 from by omega)
      clear hr54 hC54 hroom54 hi054 hsz54
      have KY54 := Aside0.mk hy54
      clear hy54
      have KL54 := Aside0.mk (show ((ji34) : Int).toNat ≤ t1493.length from by omega)
      replace q54 := eq_true q54
      refine start_ (n := 14) (S := fun w' => w'.cell? ⟨gb1490, 0, none⟩ = some (.int .i64 a0_0) ∧ w'.cell? ⟨gb1490, 1, none⟩ = some (.slice A0_1 l0_1.length c0_1)) (ds := []) #[false, false, false, false, false, false, false, false, false, false, false, false, false, false] (by kernel_rfl) rfl rfl ⟨(blk_cell BK1490.out 0).trans rfl, (blk_cell BK1490.out 1).trans rfl⟩ (fun hHeld => ?_); refine with_tabW dancestudiolaw58_JournalCuts.tab19 dancestudiolaw58_JournalCuts.bits19 (fun HT_ HW_ => ?_)
      generalize wr.drew = w53 at HO_5 HO_8 BK1490 HB HR1506 hHeld ⊢
      refine puA 0 72 (bs 14 1) ?_
      refine puA 2 74 (bs 14 5) ?_
      refine puA 3 75 (bs 14 13) ?_
      refine puA 4 76 (bs 14 29) ?_
      refine tkA 1 73 (bs 14 31) hHeld ?_
      refine join_ (σ := Value × Nat) 3 #[true, true, true, true, true, true, true, true, true, true, true, false, false, false] (fun s_ => [(77, .tuple #[.agg #[.int .i64 t1507, s_.1], .int .i64 t1511, .int .i64 t1512]), (12, .pointer (some ⟨s_.2, 0, none⟩)), (71, .tuple #[.agg #[.int .i64 t1507, s_.1], .int .i64 t1511, .int .i64 t1512]), (78, .agg #[.int .i64 t1507, s_.1]), (79, .int .i64 t1511), (80, .int .i64 t1512)]) (fun s_ w' => (w'.cell? ⟨gb1490, 0, none⟩ = some (.int .i64 a0_0) ∧ w'.cell? ⟨gb1490, 1, none⟩ = some (.slice A0_1 l0_1.length c0_1)) ∧ (Kd.R k30 30 w' w.heap.size (fun _ => True) s_.1 t1508) ∧ (Kd.R (Kd.int .u8) 5 w' w.heap.size (fun k_ => some k_ ≠ (.slice Ao52 x8_1.length co52 : Value).ownBlock) (.slice Ao18 t1493.length co18) t1493) ∧ (Kd.R (Kd.int .u8) 5 w' w.heap.size (fun k_ => some k_ ≠ (.slice Ao18 t1493.length co18 : Value).ownBlock) (.slice Ao52 x8_1.length co52) x8_1) ∧ (w'.heap[gb1490]? = some (.cells #[.int .i64 a0_0, .slice A0_1 l0_1.length c0_1] 24 (0, 0))) ∧ (w'.heap[s_.2]? = some (.cells #[.int .i64 0, .slice none 0 0] 24 (0, 0))) ∧ (w.heap.size ≤ s_.2) ∧ (w.heap.size ≤ s_.2) ∧ (gb1490 ≠ s_.2) ∧ (s_.2 ≠ gb1490) ∧ (Below w.heap.size w w')) ?_ ?_
      rotate_left
      ·intro hCont
       refine two_ (i := 5) (j := 10) (Ni := some 77) (Nj := some 12) #[true, true, true, true, true, true, false, false, false, false, false, false, false, false] #[true, true, true, true, true, false, false, false, false, false, true, false, false, false] rfl rfl rfl rfl (two_of HT_.out (by kernel_rfl)) (by decide) (by decide) (fun K hK => ?_) (fun K hK => ?_)
       ·skip
        refine goes_ Try.func41 (by kernel_rfl) rfl #[.int .i64 a0_0, .slice Ao18 y1503.length co18] (by rfl) rfl rfl (by (try simp only [List.map_toArray, List.map_cons, List.map_nil]); first | done | rfl | (simp only [List.length_drop, List.length_take]; rfl)) ?_
        with_reducible refine (journal_Recover.calls k1 a0_0 _ _ y1503 t1507 t1508 t1511 t1512 _ ?side1 ?side2 A37.out).mono ?_
        (case side1 => repeat (first | exact (by repeat (first | (with_reducible exact HR1506.out) | (with_reducible refine Kd.C_alloc ?_ _) | (with_reducible refine Kd.C_drewN ?_ _) | (with_reducible refine Kd.C_drew ?_) | exact HR1506.out)) | (with_reducible refine Kd.C_alloc ?_ _) | (with_reducible refine Kd.C_drewN ?_ _) | (with_reducible refine Kd.C_drew ?_)))
        (case side2 => exact HC1506.out)
        rintro e w55 ⟨v1509, rfl, ho0, hb⟩
        refine ⟨_, rfl, ?_⟩
        replace HO_5 := Aside0.mk (Kd.R_below (Kd.rU HO_5.out) hb)
        replace HO_8 := Aside0.mk (Kd.R_below (Kd.rU HO_8.out) hb)
        replace HO1510 := Aside0.mk (Kd.R_lower ho0 (below_size (hU HB.out)))
        replace BK1490 := Aside0.mk (blk_below (bU BK1490.out) hb)
        replace HR1506 := Aside0.mk (Kd.C_below (by repeat (first | (with_reducible exact HR1506.out) | (with_reducible refine Kd.C_alloc ?_ _) | (with_reducible refine Kd.C_drewN ?_ _) | (with_reducible refine Kd.C_drew ?_) | exact HR1506.out)) hb)
        replace HB := Aside0.mk (below_step (hU HB.out) hb)
        (try clear hb)
        (try clear hb2)
        (try clear hk)
        (try clear hi)
        (try clear ho0)
        refine hK.out _ _ ⟨(blk_cell BK1490.out 0).trans rfl, (blk_cell BK1490.out 1).trans rfl⟩ (fun hHeld => ?_)
        clear hK K
        refine nmA 77 ?_
        refine puA 6 71 (bs 14 127) ?_
        refine puA 7 78 (bs 14 255) ?_
        refine puA 8 79 (bs 14 511) ?_
        refine puA 9 80 (bs 14 1023) ?_
        refine one_ (i := 10) (N := some 12) (bs 14 2047) rfl rfl (one_of HT_.out (by kernel_rfl)) (by decide) (fun K hK => ?_)
        refine box_step ?hg (N := 12) ?hd (cs := #[.int .i64 0, .slice none 0 0]) (t := 24) ?hr ?_; (case hd => rfl); (case hg => rfl); (case hr => first | (go_simp; done) | (go_simp; rfl))
        intro gb1513 hg w56 hbox hb
        have n0_ := Aside0.mk (Kd.R_below (Kd.rU HO_5.out) hb)
        have n1_ := Aside0.mk (Kd.R_below (Kd.rU HO_8.out) hb)
        have n2_ := Aside0.mk (Kd.R_below (Kd.rU HO1510.out) hb)
        have n3_ := Aside0.mk (blk_below (bU BK1490.out) hb)
        have n4_ := Aside0.mk (Kd.C_below (by repeat (first | (with_reducible exact HR1506.out) | (with_reducible refine Kd.C_alloc ?_ _) | (with_reducible refine Kd.C_drewN ?_ _) | (with_reducible refine Kd.C_drew ?_) | exact HR1506.out)) hb)
        have n5_ := Aside0.mk (below_step (hU HB.out) hb)
        have n6_ := Aside0.mk (hbox)
        have n7_ := Aside0.mk ((by rw [hg]; exact (below_size (hU HB.out)) : w.heap.size ≤ gb1513))
        have n8_ := Aside0.mk ((by rw [hg]; exact (below_size (hU HB.out)) : w.heap.size ≤ gb1513))
        have n9_ := Aside0.mk ((by rw [hg]; exact Nat.ne_of_lt (blk_lt (bU BK1490.out)) : gb1490 ≠ gb1513))
        have n10_ := Aside0.mk ((by rw [hg]; exact Nat.ne_of_gt (blk_lt (bU BK1490.out)) : gb1513 ≠ gb1490))
        clear HO_5
        clear HO_8
        clear HO1510
        clear BK1490
        clear HR1506
        clear HB
        have HO_5 := n0_
        have HO_8 := n1_
        have HO1510 := n2_
        have BK1490 := n3_
        have HR1506 := n4_
        have HB := n5_
        have BK1513 := n6_
        have GW1513 := n7_
        have GE1513 := n8_
        have NB1490_1513 := n9_
        have NB1513_1490 := n10_
        clear n0_ n1_ n2_ n3_ n4_ n5_ n6_ n7_ n8_ n9_ n10_
        clear hb hbox hg
        refine hK.out _ _ ⟨(blk_cell BK1490.out 0).trans rfl, (blk_cell BK1490.out 1).trans rfl⟩ (fun hHeld => ?_)
        clear hK K
        refine nmA 12 ?_
        exact norm_ (by simp only [putAll, Act.put, List.setIfInBounds_toArray, List.set_cons_zero, List.set_cons_succ]) (hCont (v1509, gb1513) _ ⟨hHeld, (Kd.rU HO1510.out), (Kd.rU HO_5.out), (Kd.rU HO_8.out), (bU BK1490.out), (bU BK1513.out), GW1513.out, GE1513.out, NB1490_1513.out, NB1513_1490.out, (hU HB.out)⟩)
       ·skip
        refine box_step ?hg (N := 12) ?hd (cs := #[.int .i64 0, .slice none 0 0]) (t := 24) ?hr ?_; (case hd => rfl); (case hg => rfl); (case hr => first | (go_simp; done) | (go_simp; rfl))
        intro gb1513 hg w55 hbox hb
        have n0_ := Aside0.mk (Kd.R_below (Kd.rU HO_5.out) hb)
        have n1_ := Aside0.mk (Kd.R_below (Kd.rU HO_8.out) hb)
        have n2_ := Aside0.mk (blk_below (bU BK1490.out) hb)
        have n3_ := Aside0.mk (Kd.C_below (by repeat (first | (with_reducible exact HR1506.out) | (with_reducible refine Kd.C_alloc ?_ _) | (with_reducible refine Kd.C_drewN ?_ _) | (with_reducible refine Kd.C_drew ?_) | exact HR1506.out)) hb)
        have n4_ := Aside0.mk (below_step (hU HB.out) hb)
        have n5_ := Aside0.mk (hbox)
        have n6_ := Aside0.mk ((by rw [hg]; exact (below_size (hU HB.out)) : w.heap.size ≤ gb1513))
        have n7_ := Aside0.mk ((by rw [hg]; exact (below_size (hU HB.out)) : w.heap.size ≤ gb1513))
        have n8_ := Aside0.mk ((by rw [hg]; exact Nat.ne_of_lt (blk_lt (bU BK1490.out)) : gb1490 ≠ gb1513))
        have n9_ := Aside0.mk ((by rw [hg]; exact Nat.ne_of_gt (blk_lt (bU BK1490.out)) : gb1513 ≠ gb1490))
        clear HO_5
        clear HO_8
        clear BK1490
        clear HR1506
        clear HB
        have HO_5 := n0_
        have HO_8 := n1_
        have BK1490 := n2_
        have HR1506 := n3_
        have HB := n4_
        have BK1513 := n5_
        have GW1513 := n6_
        have GE1513 := n7_
        have NB1490_1513 := n8_
        have NB1513_1490 := n9_
        clear n0_ n1_ n2_ n3_ n4_ n5_ n6_ n7_ n8_ n9_
        clear hb hbox hg
        refine hK.out _ _ ⟨(blk_cell BK1490.out 0).trans rfl, (blk_cell BK1490.out 1).trans rfl⟩ (fun hHeld => ?_)
        clear hK K
        refine nmA 12 ?_
        refine one_ (i := 5) (N := some 77) (bs 14 1087) rfl rfl (one_of HT_.out (by kernel_rfl)) (by decide) (fun K hK => ?_)
        refine goes_ Try.func41 (by kernel_rfl) rfl #[.int .i64 a0_0, .slice Ao18 y1503.length co18] (by rfl) rfl rfl (by (try simp only [List.map_toArray, List.map_cons, List.map_nil]); first | done | rfl | (simp only [List.length_drop, List.length_take]; rfl)) ?_
        with_reducible refine (journal_Recover.calls k1 a0_0 _ _ y1503 t1507 t1508 t1511 t1512 _ ?side1 ?side2 A37.out).mono ?_
        (case side1 => repeat (first | exact (by repeat (first | (with_reducible exact HR1506.out) | (with_reducible refine Kd.C_alloc ?_ _) | (with_reducible refine Kd.C_drewN ?_ _) | (with_reducible refine Kd.C_drew ?_) | exact HR1506.out)) | (with_reducible refine Kd.C_alloc ?_ _) | (with_reducible refine Kd.C_drewN ?_ _) | (with_reducible refine Kd.C_drew ?_)))
        (case side2 => exact HC1506.out)
        rintro e w56 ⟨v1509, rfl, ho0, hb⟩
        refine ⟨_, rfl, ?_⟩
        replace HO_5 := Aside0.mk (Kd.R_below (Kd.rU HO_5.out) hb)
        replace HO_8 := Aside0.mk (Kd.R_below (Kd.rU HO_8.out) hb)
        replace HO1510 := Aside0.mk (Kd.R_lower ho0 (below_size (hU HB.out)))
        replace BK1490 := Aside0.mk (blk_below (bU BK1490.out) hb)
        replace HR1506 := Aside0.mk (Kd.C_below (by repeat (first | (with_reducible exact HR1506.out) | (with_reducible refine Kd.C_alloc ?_ _) | (with_reducible refine Kd.C_drewN ?_ _) | (with_reducible refine Kd.C_drew ?_) | exact HR1506.out)) hb)
        replace BK1513 := Aside0.mk (blk_below (bU BK1513.out) hb)
        replace HB := Aside0.mk (below_step (hU HB.out) hb)
        (try clear hb)
        (try clear hb2)
        (try clear hk)
        (try clear hi)
        (try clear ho0)
        refine hK.out _ _ ⟨(blk_cell BK1490.out 0).trans rfl, (blk_cell BK1490.out 1).trans rfl⟩ (fun hHeld => ?_)
        clear hK K
        refine nmA 77 ?_
        refine puA 6 71 (bs 14 1151) ?_
        refine puA 7 78 (bs 14 1279) ?_
        refine puA 8 79 (bs 14 1535) ?_
        refine puA 9 80 (bs 14 2047) ?_
        exact norm_ (by simp only [putAll, Act.put, List.setIfInBounds_toArray, List.set_cons_zero, List.set_cons_succ]) (hCont (v1509, gb1513) _ ⟨hHeld, (Kd.rU HO1510.out), (Kd.rU HO_5.out), (Kd.rU HO_8.out), (bU BK1490.out), (bU BK1513.out), GW1513.out, GE1513.out, NB1490_1513.out, NB1513_1490.out, (hU HB.out)⟩)
      rintro ⟨v1509, gb1513⟩ w57 ⟨hS_, h0_, h1_, h2_, h3_, h4_, h5_, h6_, h7_, h8_, h9_⟩
      have n0_ : Aside0 (Kd.R k30 30 w57 w.heap.size (fun _ => True) v1509 t1508) := ⟨h0_⟩
      have n1_ : Aside0 (Kd.R (Kd.int .u8) 5 w57 w.heap.size (fun k_ => some k_ ≠ (.slice Ao52 x8_1.length co52 : Value).ownBlock) (.slice Ao18 t1493.length co18) t1493) := ⟨h1_⟩
      have n2_ : Aside0 (Kd.R (Kd.int .u8) 5 w57 w.heap.size (fun k_ => some k_ ≠ (.slice Ao18 t1493.length co18 : Value).ownBlock) (.slice Ao52 x8_1.length co52) x8_1) := ⟨h2_⟩
      have n3_ : Aside0 (w57.heap[gb1490]? = some (.cells #[.int .i64 a0_0, .slice A0_1 l0_1.length c0_1] 24 (0, 0))) := ⟨h3_⟩
      have n4_ : Aside0 (w57.heap[gb1513]? = some (.cells #[.int .i64 0, .slice none 0 0] 24 (0, 0))) := ⟨h4_⟩
      have n5_ : Aside0 (w.heap.size ≤ gb1513) := ⟨h5_⟩
      have n6_ : Aside0 (w.heap.size ≤ gb1513) := ⟨h6_⟩
      have n7_ : Aside0 (gb1490 ≠ gb1513) := ⟨h7_⟩
      have n8_ : Aside0 (gb1513 ≠ gb1490) := ⟨h8_⟩
      have n9_ : Aside0 (Below w.heap.size w w57) := ⟨h9_⟩
      clear HO_5
      clear HO_8
      clear BK1490
      clear HB
      clear h0_ h1_ h2_ h3_ h4_ h5_ h6_ h7_ h8_ h9_
      have HO1510 := n0_
      have HO_5 := n1_
      have HO_8 := n2_
      have BK1490 := n3_
      have BK1513 := n4_
      have GW1513 := n5_
      have GE1513 := n6_
      have NB1490_1513 := n7_
      have NB1513_1490 := n8_
      have HB := n9_
      clear n0_ n1_ n2_ n3_ n4_ n5_ n6_ n7_ n8_ n9_
      have hHeld : w57.cell? ⟨gb1490, 0, none⟩ = some (.int .i64 a0_0) ∧ w57.cell? ⟨gb1490, 1, none⟩ = some (.slice A0_1 l0_1.length c0_1) := hS_
      obtain ⟨Ao59, co59, eo59⟩ := Kd.R_slice HO1510.out
      (first | subst eo59 | (injection eo59 with f1_ f2_ f3_; have f4_ := f1_.symm; have f5_ := f3_.symm; clear f1_ f2_ f3_; subst f4_; subst f5_))
      refine norm_ (a' := ?_) ?_ ?_
      rotate_left
      ·simp only [putAll, Act.put, List.setIfInBounds_toArray, List.set_cons_zero, List.set_cons_succ]
       rfl
      refine one_ (i := 11) (N := none) #[true, true, true, true, true, true, true, true, true, true, true, true, false, false] rfl rfl (one_of HT_.out (by kernel_rfl)) (by decide) (fun K hK => ?_)
      have hs58 : w57.cell? ⟨gb1513, 0, none⟩ = some (.int .i64 0) := (blk_cell BK1513.out 0).trans rfl
      have hfs58 := blk_frozen BK1513.out 0
      have hns58_0 := NB1490_1513.out
      have hms58_0 := NB1513_1490.out
      have hs60 : w57.cell? ⟨gb1513, 1, none⟩ = some (.slice none 0 0) := (blk_cell BK1513.out 1).trans rfl
      have hfs60 := blk_frozen BK1513.out 1
      have hns60_0 := NB1490_1513.out
      have hms60_0 := NB1513_1490.out
      refine skip_ (w1 := ?_) (by rfl) rfl ?_ ?_
      rotate_left
      ·go_simp
       rfl
      refine hK.out _ _ ⟨((cell_far (p := ⟨gb1513, _, none⟩) NB1490_1513.out _).trans (((cell_far (p := ⟨gb1513, _, none⟩) NB1490_1513.out _).trans (hHeld.1)))), ((cell_far (p := ⟨gb1513, _, none⟩) NB1490_1513.out _).trans (((cell_far (p := ⟨gb1513, _, none⟩) NB1490_1513.out _).trans (hHeld.2))))⟩ (fun hHeld => ?_)
      clear hK K
      refine puA 12 13 (bs 14 8191) ?_
      refine puA 13 6 (bs 14 16383) ?_
      refine done_ (done_of HT_.out (by kernel_rfl)) ?_
      have hnb61 := NB1490_1513.out
      have hnc61 := NB1513_1490.out
      have hcz62_0 := blk_cell BK1490.out
      have hfz62_0 := blk_frozen BK1490.out
      try go_wp2_with (first | ((with_reducible refine gate_callee (f := 41) rfl ?_); refine goesL_ (some 85) rfl rfl Try.func41 (by kernel_rfl) rfl #[.int .i64 a0_0, .slice Ao18 t1493.length co18] rfl (by (try simp only [List.map_toArray, List.map_cons, List.map_nil]); first | done | rfl | (simp only [List.length_drop, List.length_take]; rfl)) ?_; (with_reducible refine (journal_Recover.calls k1 a0_0 _ _ t1493 t1514 t1515 t1518 t1519 _ ?side1 ?side2 A38.out).mono ?_); (case side1 => refine (Kd.R_reads' (e := 5) (base := w.heap.size) (ok := fun k_ => some k_ ≠ (.slice Ao52 x8_1.length co52 : Value).ownBlock) (n := t1493.length) (c := co18) ?_).2.2; exact (by (with_reducible repeat (first | apply Kd.R_alloc | apply Kd.R_drewN | apply Kd.R_drew)); exact (Kd.R_mono (Kd.R_far (p := ⟨gb1513, 1, none⟩) (Kd.R_far (p := ⟨gb1513, 0, none⟩) (Kd.R_types HO_5.out BK1513.out (by decide)) (fun _ hk => hk.2) (.int .i64 t1507)) (fun _ hk => hk.2) (.slice Ao59 t1508.length co59)) (fun _ h_ => h_.1)))); (case side2 => exact (Kd.R_reads' HO_5.out).2.1); rintro e w63 ⟨v1516, rfl, ho0, hb⟩; refine ⟨_, rfl, ?_⟩; replace HO_5 := Aside0.mk (Kd.R_below (by (with_reducible repeat (first | apply Kd.R_alloc | apply Kd.R_drewN | apply Kd.R_drew)); exact (Kd.R_mono (Kd.R_far (p := ⟨gb1513, 1, none⟩) (Kd.R_far (p := ⟨gb1513, 0, none⟩) (Kd.R_types HO_5.out BK1513.out (by decide)) (fun _ hk => hk.2) (.int .i64 t1507)) (fun _ hk => hk.2) (.slice Ao59 t1508.length co59)) (fun _ h_ => h_.1))) hb); replace HO_8 := Aside0.mk (Kd.R_below (by (with_reducible repeat (first | apply Kd.R_alloc | apply Kd.R_drewN | apply Kd.R_drew)); exact (Kd.R_mono (Kd.R_far (p := ⟨gb1513, 1, none⟩) (Kd.R_far (p := ⟨gb1513, 0, none⟩) (Kd.R_types HO_8.out BK1513.out (by decide)) (fun _ hk => hk.2) (.int .i64 t1507)) (fun _ hk => hk.2) (.slice Ao59 t1508.length co59)) (fun _ h_ => h_.1))) hb); replace HO1517 := Aside0.mk (Kd.R_lower (Kd.R_new' ho0 (Kd.R_lt (by (with_reducible repeat (first | apply Kd.R_alloc | apply Kd.R_drewN | apply Kd.R_drew)); exact (Kd.R_mono (Kd.R_far (p := ⟨gb1513, 1, none⟩) (Kd.R_far (p := ⟨gb1513, 0, none⟩) (Kd.R_types HO1510.out BK1513.out (by decide)) (fun _ hk => hk.2) (.int .i64 t1507)) (fun _ hk => hk.2) (.slice Ao59 t1508.length co59)) (fun _ h_ => h_.1))))) (below_size (hU HB.out))); replace HO1510 := Aside0.mk (Kd.R_elder' (by (with_reducible repeat (first | apply Kd.R_alloc | apply Kd.R_drewN | apply Kd.R_drew)); exact (Kd.R_mono (Kd.R_far (p := ⟨gb1513, 1, none⟩) (Kd.R_far (p := ⟨gb1513, 0, none⟩) (Kd.R_types HO1510.out BK1513.out (by decide)) (fun _ hk => hk.2) (.int .i64 t1507)) (fun _ hk => hk.2) (.slice Ao59 t1508.length co59)) (fun _ h_ => h_.1))) (Kd.R_base ho0) hb); replace BK1490 := Aside0.mk (blk_below (g := gb1490) (o := .cells #[.int .i64 a0_0, .slice A0_1 l0_1.length c0_1] 24 (0, 0)) (by (with_reducible repeat (first | refine blk_drewN ?_ _ | refine blk_drew ?_ | refine blk_alloc ?_ _)); refine (Below.heap_setCell _ ⟨_, _, none⟩ _ _ NB1490_1513.out).trans ?_; (with_reducible repeat (first | refine blk_drewN ?_ _ | refine blk_drew ?_ | refine blk_alloc ?_ _)); refine (Below.heap_setCell _ ⟨_, _, none⟩ _ _ NB1490_1513.out).trans ?_; (with_reducible repeat (first | refine blk_drewN ?_ _ | refine blk_drew ?_ | refine blk_alloc ?_ _)); exact BK1490.out) hb); replace BK1513 := Aside0.mk (blk_below (g := gb1513) (o := .cells #[.int .i64 t1507, .slice Ao59 t1508.length co59] 24 (0, 0)) (by (with_reducible repeat (first | refine blk_drewN ?_ _ | refine blk_drew ?_ | refine blk_alloc ?_ _)); refine blk_put (cs := #[.int .i64 t1507, .slice none 0 0]) ?_ 1 _ rfl; (with_reducible repeat (first | refine blk_drewN ?_ _ | refine blk_drew ?_ | refine blk_alloc ?_ _)); refine blk_put (cs := #[.int .i64 0, .slice none 0 0]) ?_ 0 _ rfl; (with_reducible repeat (first | refine blk_drewN ?_ _ | refine blk_drew ?_ | refine blk_alloc ?_ _)); exact BK1513.out) hb); replace HB := Aside0.mk (below_step (hU HB.out) hb); (try clear hb); (try clear hb2); (try clear hk); (try clear hi); (try clear ho0)) | ((with_reducible refine gate_dst (N := 14) rfl ?_); (try (refine gate_guard (by rfl) ?_; dsimp only)); refine box_event ?hg (N := 14) ?hd (cs := #[.int .i64 0, .slice none 0 0]) (t := 24) ?hr ?_; (case hd => rfl); (case hg => rfl); (case hr => first | (go_simp; done) | (go_simp; rfl)); intro gb1520 hg w64 hbox hb; have n0_ := Aside0.mk (Kd.R_below (Kd.rU HO_5.out) hb); have n1_ := Aside0.mk (Kd.R_below (Kd.rU HO_8.out) hb); have n2_ := Aside0.mk (Kd.R_below (Kd.rU HO1510.out) hb); have n3_ := Aside0.mk (Kd.R_below (Kd.rU HO1517.out) hb); have n4_ := Aside0.mk (blk_below (bU BK1490.out) hb); have n5_ := Aside0.mk (blk_below (bU BK1513.out) hb); have n6_ := Aside0.mk (below_step (hU HB.out) hb); have n7_ := Aside0.mk (hbox); have n8_ := Aside0.mk ((by rw [hg]; exact (below_size (hU HB.out)) : w.heap.size ≤ gb1520)); have n9_ := Aside0.mk ((by rw [hg]; exact (below_size (hU HB.out)) : w.heap.size ≤ gb1520)); have n10_ := Aside0.mk ((by rw [hg]; exact Nat.ne_of_lt (blk_lt (bU BK1490.out)) : gb1490 ≠ gb1520)); have n11_ := Aside0.mk ((by rw [hg]; exact Nat.ne_of_gt (blk_lt (bU BK1490.out)) : gb1520 ≠ gb1490)); have n12_ := Aside0.mk ((by rw [hg]; exact Nat.ne_of_lt (blk_lt (bU BK1513.out)) : gb1513 ≠ gb1520)); have n13_ := Aside0.mk ((by rw [hg]; exact Nat.ne_of_gt (blk_lt (bU BK1513.out)) : gb1520 ≠ gb1513)); clear HO_5; clear HO_8; clear HO1510; clear HO1517; clear BK1490; clear BK1513; clear HB; have HO_5 := n0_; have HO_8 := n1_; have HO1510 := n2_; have HO1517 := n3_; have BK1490 := n4_; have BK1513 := n5_; have HB := n6_; have BK1520 := n7_; have GW1520 := n8_; have GE1520 := n9_; have NB1490_1520 := n10_; have NB1520_1490 := n11_; have NB1513_1520 := n12_; have NB1520_1513 := n13_; clear n0_ n1_ n2_ n3_ n4_ n5_ n6_ n7_ n8_ n9_ n10_ n11_ n12_ n13_; clear hb hbox hg; have hnb65 := NB1520_1490.out; have hnc65 := NB1490_1520.out; have hnb66 := NB1520_1513.out; have hnc66 := NB1513_1520.out; have hcz67_0 := blk_cell BK1520.out; have hfz67_0 := blk_frozen BK1520.out; obtain ⟨Ao68, co68, eo68⟩ := Kd.R_slice HO1517.out; subst eo68))
      have n0_ : Aside0 (Kd.R (Kd.int .u8) 5 ((w64.setCell ⟨gb1520, 0, none⟩ (.int .i64 t1514)).setCell ⟨gb1520, 1, none⟩ (.slice Ao68 t1515.length co68)) w.heap.size (fun k_ => some k_ ≠ (.slice Ao52 x8_1.length co52 : Value).ownBlock) (.slice Ao18 t1493.length co18) t1493) := ⟨by (with_reducible repeat (first | apply Kd.R_alloc | apply Kd.R_drewN | apply Kd.R_drew)); exact Kd.R_mono (Kd.R_far (p := ⟨gb1520, 1, none⟩) (Kd.R_far (p := ⟨gb1520, 0, none⟩) (Kd.R_types HO_5.out BK1520.out (by decide)) (fun _ hk => hk.2) (.int .i64 t1514)) (fun _ hk => hk.2) (.slice Ao68 t1515.length co68)) (fun _ hk => hk.1)⟩
      have n1_ : Aside0 (Kd.R (Kd.int .u8) 5 ((w64.setCell ⟨gb1520, 0, none⟩ (.int .i64 t1514)).setCell ⟨gb1520, 1, none⟩ (.slice Ao68 t1515.length co68)) w.heap.size (fun k_ => some k_ ≠ (.slice Ao18 t1493.length co18 : Value).ownBlock) (.slice Ao52 x8_1.length co52) x8_1) := ⟨by (with_reducible repeat (first | apply Kd.R_alloc | apply Kd.R_drewN | apply Kd.R_drew)); exact Kd.R_mono (Kd.R_far (p := ⟨gb1520, 1, none⟩) (Kd.R_far (p := ⟨gb1520, 0, none⟩) (Kd.R_types HO_8.out BK1520.out (by decide)) (fun _ hk => hk.2) (.int .i64 t1514)) (fun _ hk => hk.2) (.slice Ao68 t1515.length co68)) (fun _ hk => hk.1)⟩
      have n2_ : Aside0 (Kd.R k30 30 ((w64.setCell ⟨gb1520, 0, none⟩ (.int .i64 t1514)).setCell ⟨gb1520, 1, none⟩ (.slice Ao68 t1515.length co68)) w.heap.size (fun k_ => some k_ ≠ (.slice Ao68 t1515.length co68 : Value).ownBlock) (.slice Ao59 t1508.length co59) t1508) := ⟨by (with_reducible repeat (first | apply Kd.R_alloc | apply Kd.R_drewN | apply Kd.R_drew)); exact Kd.R_mono (Kd.R_far (p := ⟨gb1520, 1, none⟩) (Kd.R_far (p := ⟨gb1520, 0, none⟩) (Kd.R_types HO1510.out BK1520.out (by decide)) (fun _ hk => hk.2) (.int .i64 t1514)) (fun _ hk => hk.2) (.slice Ao68 t1515.length co68)) (fun _ hk => hk.1.2)⟩
      have n3_ : Aside0 (Kd.R k30 30 ((w64.setCell ⟨gb1520, 0, none⟩ (.int .i64 t1514)).setCell ⟨gb1520, 1, none⟩ (.slice Ao68 t1515.length co68)) w.heap.size (fun k_ => some k_ ≠ (.slice Ao59 t1508.length co59 : Value).ownBlock) (.slice Ao68 t1515.length co68) t1515) := ⟨by (with_reducible repeat (first | apply Kd.R_alloc | apply Kd.R_drewN | apply Kd.R_drew)); exact Kd.R_mono (Kd.R_far (p := ⟨gb1520, 1, none⟩) (Kd.R_far (p := ⟨gb1520, 0, none⟩) (Kd.R_types HO1517.out BK1520.out (by decide)) (fun _ hk => hk.2) (.int .i64 t1514)) (fun _ hk => hk.2) (.slice Ao68 t1515.length co68)) (fun _ hk => hk.1.2)⟩
      have n4_ : Aside0 (((w64.setCell ⟨gb1520, 0, none⟩ (.int .i64 t1514)).setCell ⟨gb1520, 1, none⟩ (.slice Ao68 t1515.length co68)).heap[gb1490]? = some (.cells #[.int .i64 a0_0, .slice A0_1 l0_1.length c0_1] 24 (0, 0))) := ⟨by (with_reducible repeat (first | refine blk_drewN ?_ _ | refine blk_drew ?_ | refine blk_alloc ?_ _)); refine (Below.heap_setCell _ ⟨_, _, none⟩ _ _ NB1490_1520.out).trans ?_; (with_reducible repeat (first | refine blk_drewN ?_ _ | refine blk_drew ?_ | refine blk_alloc ?_ _)); refine (Below.heap_setCell _ ⟨_, _, none⟩ _ _ NB1490_1520.out).trans ?_; (with_reducible repeat (first | refine blk_drewN ?_ _ | refine blk_drew ?_ | refine blk_alloc ?_ _)); exact BK1490.out⟩
      have n5_ : Aside0 (((w64.setCell ⟨gb1520, 0, none⟩ (.int .i64 t1514)).setCell ⟨gb1520, 1, none⟩ (.slice Ao68 t1515.length co68)).heap[gb1513]? = some (.cells #[.int .i64 t1507, .slice Ao59 t1508.length co59] 24 (0, 0))) := ⟨by (with_reducible repeat (first | refine blk_drewN ?_ _ | refine blk_drew ?_ | refine blk_alloc ?_ _)); refine (Below.heap_setCell _ ⟨_, _, none⟩ _ _ NB1513_1520.out).trans ?_; (with_reducible repeat (first | refine blk_drewN ?_ _ | refine blk_drew ?_ | refine blk_alloc ?_ _)); refine (Below.heap_setCell _ ⟨_, _, none⟩ _ _ NB1513_1520.out).trans ?_; (with_reducible repeat (first | refine blk_drewN ?_ _ | refine blk_drew ?_ | refine blk_alloc ?_ _)); exact BK1513.out⟩
      have n6_ : Aside0 (((w64.setCell ⟨gb1520, 0, none⟩ (.int .i64 t1514)).setCell ⟨gb1520, 1, none⟩ (.slice Ao68 t1515.length co68)).heap[gb1520]? = some (.cells #[.int .i64 t1514, .slice Ao68 t1515.length co68] 24 (0, 0))) := ⟨by (with_reducible repeat (first | refine blk_drewN ?_ _ | refine blk_drew ?_ | refine blk_alloc ?_ _)); refine blk_put (cs := #[.int .i64 t1514, .slice none 0 0]) ?_ 1 _ rfl; (with_reducible repeat (first | refine blk_drewN ?_ _ | refine blk_drew ?_ | refine blk_alloc ?_ _)); refine blk_put (cs := #[.int .i64 0, .slice none 0 0]) ?_ 0 _ rfl; (with_reducible repeat (first | refine blk_drewN ?_ _ | refine blk_drew ?_ | refine blk_alloc ?_ _)); exact BK1520.out⟩
      have n7_ : Aside0 (Below w.heap.size w ((w64.setCell ⟨gb1520, 0, none⟩ (.int .i64 t1514)).setCell ⟨gb1520, 1, none⟩ (.slice Ao68 t1515.length co68))) := ⟨hU HB.out⟩
      (try clear HO_5)
      (try clear HO_8)
      (try clear HO1510)
      (try clear HO1517)
      (try clear BK1490)
      (try clear BK1513)
      (try clear BK1520)
      (try clear HB)
      generalize ((w64.setCell ⟨gb1520, 0, none⟩ (.int .i64 t1514)).setCell ⟨gb1520, 1, none⟩ (.slice Ao68 t1515.length co68)) = w69 at n0_ n1_ n2_ n3_ n4_ n5_ n6_ n7_ ⊢
      have HO_5 := n0_
      have HO_8 := n1_
      have HO1510 := n2_
      have HO1517 := n3_
      have BK1490 := n4_
      have BK1513 := n5_
      have BK1520 := n6_
      have HB := n7_
      clear n0_ n1_ n2_ n3_ n4_ n5_ n6_ n7_
      have n0_ := Aside0.mk (Kd.R_drew HO_5.out)
      have n1_ := Aside0.mk (Kd.R_drew HO_8.out)
      have n2_ := Aside0.mk (Kd.R_drew HO1510.out)
      have n3_ := Aside0.mk (Kd.R_drew HO1517.out)
      have n4_ := Aside0.mk (blk_drew BK1490.out)
      have n5_ := Aside0.mk (blk_drew BK1513.out)
      have n6_ := Aside0.mk (blk_drew BK1520.out)
      have n7_ := Aside0.mk (below_drew1 HB.out)
      clear HO_5
      clear HO_8
      clear HO1510
      clear HO1517
      clear BK1490
      clear BK1513
      clear BK1520
      clear HB
      have HO_5 := n0_
      have HO_8 := n1_
      have HO1510 := n2_
      have HO1517 := n3_
      have BK1490 := n4_
      have BK1513 := n5_
      have BK1520 := n6_
      have HB := n7_
      clear n0_ n1_ n2_ n3_ n4_ n5_ n6_ n7_
      have q71 : (x10_1 : Int) ≤ ((l0_1.length : Int) : Int) := of_decide_eq_true (by first | (with_reducible assumption) | assumption)
      obtain ⟨i071, hi071, _, hsz71, _⟩ := info_parts info30
      have hroom71 : l0_1.length ≤ c0_1 := HC0_1.out
      have hC71 : Kd.C k30 _ A0_1 l0_1.length l0_1 := HR0_1.out
      have hcut71 := cut_to (P := Try.prog) 22 30 .i64 Try.underlying22 hi071 A0_1 l0_1.length c0_1 x10_1 (of_decide_eq_true (by first | (with_reducible assumption) | assumption)) q71 hroom71
      have hr71 := Kd.C_take (m := (x10_1 : Int).toNat) hC71 (by omega)
      have hy71 : y1521.length = (x10_1 : Int).toNat := (by rw [Ny1521.out, List.length_take]; omega)
      rw [← Ny1521.out] at hr71
      rw [← hy71] at hcut71
      have HR1524 := Aside0.mk hr71
      have HC1524 := Aside0.mk (show y1521.length ≤ c0_1 from by omega)
      clear hr71 hC71 hroom71 hi071 hsz71
      have KY71 := Aside0.mk hy71
      clear hy71
      replace q71 := eq_true q71
      refine start_ (n := 42) (S := fun w' => w'.cell? ⟨gb1513, 0, none⟩ = some (.int .i64 t1507) ∧ w'.cell? ⟨gb1513, 1, none⟩ = some (.slice Ao59 t1508.length co59) ∧ w'.cell? ⟨gb1490, 0, none⟩ = some (.int .i64 a0_0) ∧ w'.cell? ⟨gb1490, 1, none⟩ = some (.slice A0_1 l0_1.length c0_1) ∧ w'.cell? ⟨gb1520, 0, none⟩ = some (.int .i64 t1514) ∧ w'.cell? ⟨gb1520, 1, none⟩ = some (.slice Ao68 t1515.length co68)) (ds := []) #[false, false, false, false, false, false, false, false, false, false, false, false, false, false, false, false, false, false, false, false, false, false, false, false, false, false, false, false, false, false, false, false, false, false, false, false, false, false, false, false, false, false] (by kernel_rfl) rfl rfl ⟨(blk_cell BK1513.out 0).trans rfl, (blk_cell BK1513.out 1).trans rfl, (blk_cell BK1490.out 0).trans rfl, (blk_cell BK1490.out 1).trans rfl, (blk_cell BK1520.out 0).trans rfl, (blk_cell BK1520.out 1).trans rfl⟩ (fun hHeld => ?_); refine with_tabW dancestudiolaw58_JournalCuts.tab21 dancestudiolaw58_JournalCuts.bits21 (fun HT_ HW_ => ?_)
      generalize w69.drew = w70 at HO_5 HO_8 HO1510 HO1517 BK1490 BK1513 BK1520 HB HR1524 hHeld ⊢
      refine puA 0 89 (bs 42 1) ?_
      refine puA 1 90 (bs 42 3) ?_
      refine puA 2 91 (bs 42 7) ?_
      refine puA 3 92 (bs 42 15) ?_
      refine puA 4 93 (bs 42 31) ?_
      refine puA 5 94 (bs 42 63) ?_
      refine puA 6 95 (bs 42 127) ?_
      refine puA 7 96 (bs 42 255) ?_
      refine puA 8 97 (bs 42 511) ?_
      refine puA 9 98 (bs 42 1023) ?_
      refine puA 10 99 (bs 42 2047) ?_
      refine puA 11 100 (bs 42 4095) ?_
      refine puA 12 101 (bs 42 8191) ?_
      refine puA 13 102 (bs 42 16383) ?_
      refine puA 14 103 (bs 42 32767) ?_
      refine puA 15 104 (bs 42 65535) ?_
      refine puA 16 105 (bs 42 131071) ?_
      refine puA 17 106 (bs 42 262143) ?_
      refine puA 18 107 (bs 42 524287) ?_
      refine puA 20 109 (bs 42 1572863) ?_
      refine tkA 19 108 (bs 42 2097151) hHeld ?_
      refine tkA 21 110 (bs 42 4194303) hHeld ?_
      refine puA 22 111 (bs 42 8388607) ?_
      refine puA 23 112 (bs 42 16777215) ?_
      refine puA 24 113 (bs 42 33554431) ?_
      refine puA 25 114 (bs 42 67108863) ?_
      refine puA 27 116 (bs 42 201326591) ?_
      refine puA 29 118 (bs 42 738197503) ?_
      refine tkA 26 115 (bs 42 805306367) hHeld ?_
      refine tkA 28 117 (bs 42 1073741823) hHeld ?_
      refine puA 30 119 (bs 42 2147483647) ?_
      refine one_ (i := 31) (N := some 120) (bs 42 4294967295) rfl rfl (one_of HT_.out (by kernel_rfl)) (by decide) (fun K hK => ?_)
      refine goes_ Try.func48 (by kernel_rfl) rfl #[.slice Ao59 t1508.length co59, .slice A0_1 y1521.length c0_1] (by rfl) rfl rfl (by (try simp only [List.map_toArray, List.map_cons, List.map_nil]); first | done | rfl | (simp only [List.length_drop, List.length_take]; rfl)) ?_
      with_reducible refine (dancestudioref58_Edits.calls k1 _ _ t1508 _ _ y1521 true _ ?side1 ?side2 ?side3 ?side4 A46.out).mono ?_
      (case side1 => repeat (first | exact (Kd.R_reads' HO1510.out).2.2 | (with_reducible refine Kd.C_alloc ?_ _) | (with_reducible refine Kd.C_drewN ?_ _) | (with_reducible refine Kd.C_drew ?_)))
      (case side2 => exact (Kd.R_reads' HO1510.out).2.1)
      (case side3 => repeat (first | exact (Kd.C_below HR1524.out HB.out) | (with_reducible refine Kd.C_alloc ?_ _) | (with_reducible refine Kd.C_drewN ?_ _) | (with_reducible refine Kd.C_drew ?_)))
      (case side4 => exact HC1524.out)
      rintro e w' ⟨rfl, ⟨nd, rfl⟩⟩
      refine ⟨_, rfl, ?_⟩
      refine hK.out _ _ ⟨(blk_cell BK1513.out 0).trans rfl, (blk_cell BK1513.out 1).trans rfl, (blk_cell BK1490.out 0).trans rfl, (blk_cell BK1490.out 1).trans rfl, (blk_cell BK1520.out 0).trans rfl, (blk_cell BK1520.out 1).trans rfl⟩ (fun hHeld => ?_)
      clear hK K
      refine nmA 120 ?_
      refine puA 32 121 (bs 42 8589934591) ?_
      refine puA 33 122 (bs 42 17179869183) ?_
      refine tkA 34 123 (bs 42 34359738367) hHeld ?_
      refine tkA 35 124 (bs 42 68719476735) hHeld ?_
      refine one_ (i := 36) (N := some 125) (bs 42 137438953471) rfl rfl (one_of HT_.out (by kernel_rfl)) (by decide) (fun K hK => ?_)
      refine goes_ Try.func43 (by kernel_rfl) rfl #[.agg #[.int .i64 t1514, .slice Ao68 t1515.length co68], .agg #[.int .i64 a0_0, .slice A0_1 l0_1.length c0_1]] (by rfl) rfl rfl (by (try simp only [List.map_toArray, List.map_cons, List.map_nil]); first | done | rfl | (simp only [List.length_drop, List.length_take]; rfl)) ?_
      with_reducible refine (dancestudioref58_Same.calls k1 t1514 _ _ t1515 a0_0 _ _ l0_1 true _ ?side1 ?side2 ?side3 ?side4 A48.out).mono ?_
      (case side1 => repeat (first | exact (Kd.R_reads' HO1517.out).2.2 | (with_reducible refine Kd.C_alloc ?_ _) | (with_reducible refine Kd.C_drewN ?_ _) | (with_reducible refine Kd.C_drew ?_)))
      (case side2 => exact (Kd.R_reads' HO1517.out).2.1)
      (case side3 => repeat (first | exact (Kd.C_below HR0_1.out (hU HB.out)) | (with_reducible refine Kd.C_alloc ?_ _) | (with_reducible refine Kd.C_drewN ?_ _) | (with_reducible refine Kd.C_drew ?_)))
      (case side4 => exact HC0_1.out)
      rintro e w72 ⟨rfl, hb⟩
      refine ⟨_, rfl, ?_⟩
      replace HO_5 := Aside0.mk (Kd.R_below (Kd.rU HO_5.out) hb)
      replace HO_8 := Aside0.mk (Kd.R_below (Kd.rU HO_8.out) hb)
      replace HO1510 := Aside0.mk (Kd.R_below (Kd.rU HO1510.out) hb)
      replace HO1517 := Aside0.mk (Kd.R_below (Kd.rU HO1517.out) hb)
      replace BK1490 := Aside0.mk (blk_below (bU BK1490.out) hb)
      replace BK1513 := Aside0.mk (blk_below (bU BK1513.out) hb)
      replace BK1520 := Aside0.mk (blk_below (bU BK1520.out) hb)
      replace HB := Aside0.mk (below_step (hU HB.out) hb)
      (try clear hb)
      (try clear hb2)
      (try clear hk)
      (try clear hi)
      refine hK.out _ _ ⟨(blk_cell BK1513.out 0).trans rfl, (blk_cell BK1513.out 1).trans rfl, (blk_cell BK1490.out 0).trans rfl, (blk_cell BK1490.out 1).trans rfl, (blk_cell BK1520.out 0).trans rfl, (blk_cell BK1520.out 1).trans rfl⟩ (fun hHeld => ?_)
      clear hK K
      refine nmA 125 ?_
      refine puA 37 126 (bs 42 274877906943) ?_
      refine puA 38 127 (bs 42 549755813887) ?_
      refine one_ (i := 39) (N := some 128) (bs 42 1099511627775) rfl rfl (one_of HT_.out (by kernel_rfl)) (by decide) (fun K hK => ?_)
      refine goes_ Try.func37 (by kernel_rfl) rfl #[] (by rfl) rfl rfl (by (try simp only [List.map_toArray, List.map_cons, List.map_nil]); first | done | rfl | (simp only [List.length_drop, List.length_take]; rfl)) ?_
      with_reducible refine (dancestudiolaw58_awake.calls k1  t1527 _ A50.out).mono ?_
      rintro e w73 ⟨rfl, hb⟩
      refine ⟨_, rfl, ?_⟩
      replace HO_5 := Aside0.mk (Kd.R_below (Kd.rU HO_5.out) hb)
      replace HO_8 := Aside0.mk (Kd.R_below (Kd.rU HO_8.out) hb)
      replace HO1510 := Aside0.mk (Kd.R_below (Kd.rU HO1510.out) hb)
      replace HO1517 := Aside0.mk (Kd.R_below (Kd.rU HO1517.out) hb)
      replace BK1490 := Aside0.mk (blk_below (bU BK1490.out) hb)
      replace BK1513 := Aside0.mk (blk_below (bU BK1513.out) hb)
      replace BK1520 := Aside0.mk (blk_below (bU BK1520.out) hb)
      replace HB := Aside0.mk (below_step (hU HB.out) hb)
      (try clear hb)
      (try clear hb2)
      (try clear hk)
      (try clear hi)
      refine hK.out _ _ ⟨(blk_cell BK1513.out 0).trans rfl, (blk_cell BK1513.out 1).trans rfl, (blk_cell BK1490.out 0).trans rfl, (blk_cell BK1490.out 1).trans rfl, (blk_cell BK1520.out 0).trans rfl, (blk_cell BK1520.out 1).trans rfl⟩ (fun hHeld => ?_)
      clear hK K
      refine nmA 128 ?_
      refine puA 40 129 (bs 42 2199023255551) ?_
      refine puA 41 4 (bs 42 4398046511103) ?_
      refine done_ (done_of HT_.out (by kernel_rfl)) ?_
      try go_wp2
      go_ret
      exact ⟨by first | rfl | (simp [errW_none, errW_some] <;> rfl) | (simp only [← hji34]; first | rfl | (simp [errW_none, errW_some] <;> rfl)) | (simp [*, errW_none, errW_some] <;> rfl), hU HB.out⟩
  ·rw [if_neg c9] at H
   have c9b0 : (t1492 == 0) = false := beq_eq_false_iff_ne.mpr c9
   have c9b1 : (t1492 != 0) = true := bne_iff_ne.mpr c9
   replace H := Option.bind_eq_some_iff.mp H
   obtain ⟨t1528, A740, H⟩ := H
   replace H : (some t1528) = some r := H
   have A74 := Aside0.mk A740
   clear A740
   obtain rfl := Option.some.inj H
   go_enter Try.func14, Try.ntmps14
   go_wp2_with (first | ((with_reducible refine gate_dst (N := 2) rfl ?_); (try (refine gate_guard (by rfl) ?_; dsimp only)); refine box_event ?hg (N := 2) ?hd (cs := #[.int .i64 a0_0, .slice A0_1 l0_1.length c0_1]) (t := 24) ?hr ?_; (case hd => rfl); (case hg => rfl); (case hr => first | (go_simp; done) | (go_simp; rfl)); intro gb1490 hg w75 hbox hb; have n0_ := Aside0.mk (below_step (hU HB.out) hb); have n1_ := Aside0.mk (hbox); have n2_ := Aside0.mk ((by rw [hg]; exact (below_size (hU HB.out)) : w.heap.size ≤ gb1490)); have n3_ := Aside0.mk ((by rw [hg]; exact (below_size (hU HB.out)) : w.heap.size ≤ gb1490)); clear HB; have HB := n0_; have BK1490 := n1_; have GW1490 := n2_; have GE1490 := n3_; clear n0_ n1_ n2_ n3_; clear hb hbox hg; have hcz76_0 := blk_cell BK1490.out; have hfz76_0 := blk_frozen BK1490.out) | (go_at_call 29; (with_reducible refine (replica_Check.calls a0_0 _ _ l0_1 t1492 _ ?side1 ?side2 A8.out).mono ?_); (case side1 => repeat (first | exact (Kd.C_below HR0_1.out HB.out) | (with_reducible refine Kd.C_alloc ?_ _) | (with_reducible refine Kd.C_drewN ?_ _) | (with_reducible refine Kd.C_drew ?_))); (case side2 => exact HC0_1.out); rintro e w77 ⟨rfl, hb⟩; replace BK1490 := Aside0.mk (blk_below (bU BK1490.out) hb); replace HB := Aside0.mk (below_step (hU HB.out) hb); (try clear hb); (try clear hb2); (try clear hk); (try clear hi)) | ((with_reducible refine gate_callee (f := 37) rfl ?_); refine goesL_ (some 26) rfl rfl Try.func37 (by kernel_rfl) rfl #[] rfl (by (try simp only [List.map_toArray, List.map_cons, List.map_nil]); first | done | rfl | (simp only [List.length_drop, List.length_take]; rfl)) ?_; (with_reducible refine (dancestudiolaw58_awake.calls k  t1528 _ A74.out).mono ?_); rintro e w78 ⟨rfl, hb⟩; refine ⟨_, rfl, ?_⟩; replace BK1490 := Aside0.mk (blk_below (bU BK1490.out) hb); replace HB := Aside0.mk (below_step (hU HB.out) hb); (try clear hb); (try clear hb2); (try clear hk); (try clear hi)))
   go_ret
   exact ⟨by first | rfl | (simp [errW_none, errW_some] <;> rfl) | (simp [*, errW_none, errW_some] <;> rfl), hU HB.out⟩
end Go.Proofs.Yteopkkoblbmggaa.P
end

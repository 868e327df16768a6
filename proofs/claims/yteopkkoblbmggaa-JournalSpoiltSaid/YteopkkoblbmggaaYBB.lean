/- Texts of this claim in one: P83; no condition. -/
import Derived.Test.YteopkkoblbmggaaYAD
import Derived.Test.YteopkkoblbmggaaYAI
import Derived.Test.YteopkkoblbmggaaYAR
import Derived.Test.YteopkkoblbmggaaYAQ
import Derived.Test.YteopkkoblbmggaaYAK
import Derived.Test.YteopkkoblbmggaaYAJ
section
namespace Go.Proofs.Yteopkkoblbmggaa.P
open Go.RowKit Go.Proofs.YteopkkoblbmggaaW.PrintWords Go.Proofs.YteopkkoblbmggaaW.PrintLast Go.Proofs.YteopkkoblbmggaaW.PrintMore
attribute [local go_sem] max2_int min2_int max_two min_two max_three min_three max_four min_four
set_option linter.unusedVariables false
set_option linter.unusedSimpArgs false
/-! ### dancestudiolaw58_JournalSpoilt: function 16 -/
def dancestudiolaw58_JournalSpoilt.f (k : Nat) (a0_0 : Int) (l0_1 : List (S30)) (a1 : Int) (a2 : Int) : Option (Bool) := if (l0_1.length : Int) > 40 then ((dancestudiolaw58_awake.f k).bind fun t1575 => (some t1575)) else ((replica_Check.f a0_0 l0_1).bind fun t1576 => (if t1576 = 0 then ((journal_Write.f k a0_0 l0_1).bind fun bt1577 => (if bt1577.2 = 0 then (if (bt1577.1.length : Int) = 0 then (if (l0_1.length : Int) = 0 then ((dancestudiolaw58_awake.f k).bind fun t1581 => (some t1581)) else (none)) else (if 0 ≤ (Int.tmod (wrap64 (a1)) (bt1577.1.length : Int)) then (if (Int.tmod (wrap64 (a1)) (bt1577.1.length : Int)) < (bt1577.1.length : Int) then ((some (bt1577.1.set ((Int.tmod (wrap64 (a1)) (bt1577.1.length : Int)) : Int).toNat (Go.bits .xor .u8 (rd bt1577.1 (Int.tmod (wrap64 (a1)) (bt1577.1.length : Int))) a2) : List Int)).bind fun y1583 => ((journal_Recover.f k a0_0 y1583).bind fun bt1584 => (if (Int.tmod (wrap64 (a1)) (bt1577.1.length : Int)) ≤ (bt1577.1.length : Int) then ((journal_Recover.f k a0_0 (y1583.take ((Int.tmod (wrap64 (a1)) (bt1577.1.length : Int)) : Int).toNat)).bind fun bt1595 => (if bt1584.2.2.2 = 0 then (if bt1595.2.2.2 = 0 then (if bt1584.2.2.1 ≥ bt1595.2.2.1 then (if bt1595.2.2.1 ≤ (Int.tmod (wrap64 (a1)) (bt1577.1.length : Int)) then (if (bt1584.2.1.length : Int) ≥ (bt1595.2.1.length : Int) then (if 0 ≤ (bt1595.2.1.length : Int) then (if (bt1595.2.1.length : Int) ≤ (bt1584.2.1.length : Int) then ((dancestudioref58_Edits.f k (bt1584.2.1.take ((bt1595.2.1.length : Int) : Int).toNat) bt1595.2.1).bind fun t1606 => (if t1606 = true then (if (bt1595.2.1.length : Int) ≤ (l0_1.length : Int) then ((dancestudioref58_Edits.f k bt1595.2.1 (l0_1.take ((bt1595.2.1.length : Int) : Int).toNat)).bind fun t1611 => (if t1611 = true then ((dancestudiolaw58_awake.f k).bind fun t1612 => (some t1612)) else (none))) else (none)) else (none))) else (none)) else (none)) else (none)) else (none)) else (none)) else (none)) else (none))) else (none)))) else (none)) else (none))) else (none))) else ((dancestudiolaw58_awake.f k).bind fun t1613 => (some t1613))))
theorem dancestudiolaw58_JournalSpoilt.mono : ∀ a0 a1 a2 a3 k, LeO (dancestudiolaw58_JournalSpoilt.f k a0 a1 a2 a3) (dancestudiolaw58_JournalSpoilt.f (k + 1) a0 a1 a2 a3) := by
 intro a0 a1 a2 a3 k
 unfold dancestudiolaw58_JournalSpoilt.f
 repeat' first
   | (with_reducible exact dancestudiolaw58_awake.mono _)
   | (with_reducible exact dancestudioref58_Edits.mono _ _ _)
   | (with_reducible exact journal_Recover.mono _ _ _)
   | (with_reducible exact journal_Write.mono _ _ _)
   | (with_reducible exact LeO.refl _)
   | (with_reducible exact LeO.none _)
   | (with_reducible refine LeO.ite ?_ ?_)
   | (with_reducible refine LeO.bind ?_ (fun _ => ?_))
   | exact dancestudiolaw58_awake.mono _
   | exact dancestudioref58_Edits.mono _ _ _
   | exact journal_Recover.mono _ _ _
   | exact journal_Write.mono _ _ _
   | exact LeO.none _
   | refine LeO.ite ?_ ?_
   | refine LeO.bind ?_ (fun _ => ?_)
def dancestudiolaw58_JournalSpoilt.T11 : Bool × List (List Nat × List Nat) := (true, [([], []), ([0], [0]), ([], []), ([], []), ([2, 3], [2, 3]), ([1, 4], [1, 4]), ([5], [5]), ([6], [6]), ([6], [6]), ([6], [6]), ([], []), ([10, 7, 5, 0, 1, 2, 3, 4, 5, 6, 7, 10], [7, 10]), ([8, 11, 0, 1, 2, 3, 4, 5, 6, 7, 8, 10, 11], [8]), ([9, 12, 0, 1, 2, 3, 4, 5, 6, 7, 8, 9, 10, 11, 12], [9])])
def dancestudiolaw58_JournalSpoilt.B11 : List Nat := [0, 1, 0, 0, 12, 31, 63, 127, 127, 127, 0, 1279, 3583, 8191]
theorem dancestudiolaw58_JournalSpoilt.tab11 : rtab .any (opsOf Try.f16 11) = dancestudiolaw58_JournalSpoilt.T11 := by kernel_rfl
theorem dancestudiolaw58_JournalSpoilt.bits11 : waitsOk dancestudiolaw58_JournalSpoilt.T11.2 dancestudiolaw58_JournalSpoilt.B11 = true := by kernel_rfl
def dancestudiolaw58_JournalSpoilt.T12 : Bool × List (List Nat × List Nat) := (true, [([], []), ([0], [0]), ([1], [1]), ([2], [2]), ([3, 2], [2, 3]), ([2, 4], [2, 4]), ([5, 2], [5]), ([6], [6]), ([6], [6]), ([7, 8, 6], [6, 7, 8]), ([6, 9], [6, 9]), ([10, 6], [10]), ([11], [11]), ([11], [11]), ([12, 13, 11], [11, 12, 13]), ([11, 14], [11, 14]), ([15, 11], [15]), ([16], [16]), ([17, 16], [16, 17]), ([18, 16], [16, 18]), ([16], [16]), ([20, 16], [16, 20]), ([21, 16], [16, 21]), ([19, 22, 16], [16, 19, 22]), ([16, 23], [16, 23]), ([24, 16], [24]), ([25], [25]), ([26, 25], [25, 26]), ([25], [25]), ([28, 25], [25, 28]), ([29, 25], [25, 29]), ([27, 30, 25], [25, 27, 30]), ([25], [25]), ([32, 25], [25, 32]), ([31, 33, 25, 25], [25, 31, 33]), ([25, 34], [25, 34]), ([35, 34], [35]), ([36], [36]), ([37, 36], [36, 37]), ([38, 36], [36, 38]), ([36], [36]), ([40, 36], [36, 40]), ([41, 36], [36, 41]), ([39, 42, 36], [36, 39, 42]), ([36, 43], [36, 43]), ([44, 36], [44]), ([45], [45]), ([46, 45], [45, 46]), ([45], [45]), ([48, 45], [45, 48]), ([45], [45]), ([50, 45], [45, 50]), ([51, 45], [45, 51]), ([49, 52, 45], [45, 49, 52]), ([47, 53, 45, 45], [45, 47, 53]), ([45, 54], [45, 54]), ([55, 54], [55]), ([56, 56], [56]), ([56, 57], [56, 57]), ([58, 57, 0, 1, 2, 3, 4, 5, 6, 7, 8, 9, 10, 11, 12, 13, 14, 15, 16, 17, 18, 19, 20, 21, 22, 23, 24, 25, 26, 27, 28, 29, 30, 31, 32, 33, 34, 35, 36, 37, 38, 39, 40, 41, 42, 43, 44, 45, 46, 47, 48, 49, 50, 51, 52, 53, 54, 55, 56, 57, 58], [58])])
def dancestudiolaw58_JournalSpoilt.B12 : List Nat := [0, 1, 3, 7, 15, 31, 63, 127, 127, 511, 1023, 2047, 4095, 4095, 16383, 32767, 65535, 131071, 262143, 524287, 131071, 1179647, 3276799, 8388607, 16777215, 33554431, 67108863, 134217727, 67108863, 335544319, 872415231, 2147483647, 67108863, 4362076159, 17179869183, 34359738367, 68719476735, 137438953471, 274877906943, 549755813887, 137438953471, 1236950581247, 3435973836799, 8796093022207, 17592186044415, 35184372088831, 70368744177663, 140737488355327, 70368744177663, 351843720888319, 70368744177663, 1196268651020287, 3448068464705535, 8796093022207999, 18014398509481983, 36028797018963967, 72057594037927935, 144115188075855871, 288230376151711743, 576460752303423487]
theorem dancestudiolaw58_JournalSpoilt.tab12 : rtab .any (opsOf Try.f16 12) = dancestudiolaw58_JournalSpoilt.T12 := by kernel_rfl
theorem dancestudiolaw58_JournalSpoilt.bits12 : waitsOk dancestudiolaw58_JournalSpoilt.T12.2 dancestudiolaw58_JournalSpoilt.B12 = true := by kernel_rfl
set_option maxHeartbeats 8000000 in
set_option maxRecDepth 100000 in
theorem dancestudiolaw58_JournalSpoilt.calls (k : Nat) (a0_0 : Int) (A0_1 : Option Addr) (c0_1 : Nat) (l0_1 : List (S30)) (a1 : Int) (a2 : Int) (r : Bool) (w : World) (hr0_1 : Kd.C k30 w A0_1 l0_1.length l0_1) (hc0_1 : l0_1.length ≤ c0_1) (h : dancestudiolaw58_JournalSpoilt.f k a0_0 l0_1 a1 a2 = some r) :
  Calls Try.prog 16 #[.agg #[.int .i64 a0_0, .slice A0_1 l0_1.length c0_1], .int .u16 a1, .int .u8 a2] w fun e w' => e = .returned (.bool r) ∧ Below w.heap.size w w' := by
 have hu24 := Try.underlying24
 have HR0_1 := Aside0.mk hr0_1
 have HC0_1 := Aside0.mk hc0_1
 clear hr0_1 hc0_1
 have HB := Aside0.mk (Below.refl w.heap.size w)
 have H : (if (l0_1.length : Int) > 40 then ((dancestudiolaw58_awake.f k).bind fun t1575 => (some t1575)) else ((replica_Check.f a0_0 l0_1).bind fun t1576 => (if t1576 = 0 then ((journal_Write.f k a0_0 l0_1).bind fun bt1577 => (if bt1577.2 = 0 then (if (bt1577.1.length : Int) = 0 then (if (l0_1.length : Int) = 0 then ((dancestudiolaw58_awake.f k).bind fun t1581 => (some t1581)) else (none)) else (if 0 ≤ (Int.tmod (wrap64 (a1)) (bt1577.1.length : Int)) then (if (Int.tmod (wrap64 (a1)) (bt1577.1.length : Int)) < (bt1577.1.length : Int) then ((some (bt1577.1.set ((Int.tmod (wrap64 (a1)) (bt1577.1.length : Int)) : Int).toNat (Go.bits .xor .u8 (rd bt1577.1 (Int.tmod (wrap64 (a1)) (bt1577.1.length : Int))) a2) : List Int)).bind fun y1583 => ((journal_Recover.f k a0_0 y1583).bind fun bt1584 => (if (Int.tmod (wrap64 (a1)) (bt1577.1.length : Int)) ≤ (bt1577.1.length : Int) then ((journal_Recover.f k a0_0 (y1583.take ((Int.tmod (wrap64 (a1)) (bt1577.1.length : Int)) : Int).toNat)).bind fun bt1595 => (if bt1584.2.2.2 = 0 then (if bt1595.2.2.2 = 0 then (if bt1584.2.2.1 ≥ bt1595.2.2.1 then (if bt1595.2.2.1 ≤ (Int.tmod (wrap64 (a1)) (bt1577.1.length : Int)) then (if (bt1584.2.1.length : Int) ≥ (bt1595.2.1.length : Int) then (if 0 ≤ (bt1595.2.1.length : Int) then (if (bt1595.2.1.length : Int) ≤ (bt1584.2.1.length : Int) then ((dancestudioref58_Edits.f k (bt1584.2.1.take ((bt1595.2.1.length : Int) : Int).toNat) bt1595.2.1).bind fun t1606 => (if t1606 = true then (if (bt1595.2.1.length : Int) ≤ (l0_1.length : Int) then ((dancestudioref58_Edits.f k bt1595.2.1 (l0_1.take ((bt1595.2.1.length : Int) : Int).toNat)).bind fun t1611 => (if t1611 = true then ((dancestudiolaw58_awake.f k).bind fun t1612 => (some t1612)) else (none))) else (none)) else (none))) else (none)) else (none)) else (none)) else (none)) else (none)) else (none)) else (none))) else (none)))) else (none)) else (none))) else (none))) else ((dancestudiolaw58_awake.f k).bind fun t1613 => (some t1613))))) = some r := h
 clear h
 by_cases c4 : (l0_1.length : Int) > 40
 ·rw [if_pos c4] at H
  have c4b0 : decide (40 < (l0_1.length : Int)) = true := decide_eq_true c4
  have c4b1 : decide (40 < l0_1.length) = true := decide_eq_true (by omega)
  clear c4
  replace H := Option.bind_eq_some_iff.mp H
  obtain ⟨t1575, A50, H⟩ := H
  replace H : (some t1575) = some r := H
  have A5 := Aside0.mk A50
  clear A50
  obtain rfl := Option.some.inj H
  go_enter Try.func16, Try.ntmps16
  go_wp2_with (first | ((with_reducible refine gate_dst (N := 3) rfl ?_); (try (refine gate_guard (by rfl) ?_; dsimp only)); refine box_event ?hg (N := 3) ?hd (cs := #[.int .i64 a0_0, .slice A0_1 l0_1.length c0_1]) (t := 24) ?hr ?_; (case hd => rfl); (case hg => rfl); (case hr => first | (go_simp; done) | (go_simp; rfl)); intro gb1574 hg w6 hbox hb; have n0_ := Aside0.mk (below_step (hU HB.out) hb); have n1_ := Aside0.mk (hbox); have n2_ := Aside0.mk ((by rw [hg]; exact (below_size (hU HB.out)) : w.heap.size ≤ gb1574)); have n3_ := Aside0.mk ((by rw [hg]; exact (below_size (hU HB.out)) : w.heap.size ≤ gb1574)); clear HB; have HB := n0_; have BK1574 := n1_; have GW1574 := n2_; have GE1574 := n3_; clear n0_ n1_ n2_ n3_; clear hb hbox hg; have hcz7_0 := blk_cell BK1574.out; have hfz7_0 := blk_frozen BK1574.out) | ((with_reducible refine gate_callee (f := 37) rfl ?_); refine goesL_ (some 24) rfl rfl Try.func37 (by kernel_rfl) rfl #[] rfl (by (try simp only [List.map_toArray, List.map_cons, List.map_nil]); first | done | rfl | (simp only [List.length_drop, List.length_take]; rfl)) ?_; (with_reducible refine (dancestudiolaw58_awake.calls k  t1575 _ A5.out).mono ?_); rintro e w8 ⟨rfl, hb⟩; refine ⟨_, rfl, ?_⟩; replace BK1574 := Aside0.mk (blk_below (bU BK1574.out) hb); replace HB := Aside0.mk (below_step (hU HB.out) hb); (try clear hb); (try clear hb2); (try clear hk); (try clear hi)))
  go_ret
  exact ⟨by first | rfl | (simp [errW_none, errW_some] <;> rfl) | (simp [*, errW_none, errW_some] <;> rfl), hU HB.out⟩
 ·rw [if_neg c4] at H
  have c4b0 : decide (40 < (l0_1.length : Int)) = false := decide_eq_false c4
  have c4b1 : decide (40 < l0_1.length) = false := decide_eq_false (by omega)
  clear c4
  replace H := Option.bind_eq_some_iff.mp H
  obtain ⟨t1576, A90, H⟩ := H
  try dsimp only at H
  have A9 := Aside0.mk A90
  clear A90
  by_cases c10 : t1576 = 0
  ·rw [if_pos c10] at H
   have c10b0 : (t1576 == 0) = true := beq_iff_eq.mpr c10
   have c10b1 : (t1576 != 0) = false := bne_eq_false_iff_eq.mpr c10
   clear c10
   replace H := Option.bind_eq_some_iff.mp H
   obtain ⟨⟨t1577, t1580⟩, A110, H⟩ := H
   try dsimp only at H
   have A11 := Aside0.mk A110
   clear A110
   by_cases c12 : t1580 = 0
   rotate_left
   ·rw [if_neg c12] at H
    exact absurd H (by simp)
   rw [if_pos c12] at H
   have c12b0 : (t1580 == 0) = true := beq_iff_eq.mpr c12
   have c12b1 : (t1580 != 0) = false := bne_eq_false_iff_eq.mpr c12
   clear c12
   by_cases c13 : (t1577.length : Int) = 0
   ·rw [if_pos c13] at H
    have c13b0 : ((t1577.length : Int) == 0) = true := beq_iff_eq.mpr c13
    have c13b1 : ((t1577.length : Int) != 0) = false := bne_eq_false_iff_eq.mpr c13
    clear c13
    by_cases c14 : (l0_1.length : Int) = 0
    rotate_left
    ·rw [if_neg c14] at H
     exact absurd H (by simp)
    rw [if_pos c14] at H
    have c14b0 : ((l0_1.length : Int) == 0) = true := beq_iff_eq.mpr c14
    have c14b1 : ((l0_1.length : Int) != 0) = false := bne_eq_false_iff_eq.mpr c14
    clear c14
    replace H := Option.bind_eq_some_iff.mp H
    obtain ⟨t1581, A150, H⟩ := H
    replace H : (some t1581) = some r := H
    have A15 := Aside0.mk A150
    clear A150
    obtain rfl := Option.some.inj H
    go_enter Try.func16, Try.ntmps16
    go_wp2_with (first | ((with_reducible refine gate_dst (N := 3) rfl ?_); (try (refine gate_guard (by rfl) ?_; dsimp only)); refine box_event ?hg (N := 3) ?hd (cs := #[.int .i64 a0_0, .slice A0_1 l0_1.length c0_1]) (t := 24) ?hr ?_; (case hd => rfl); (case hg => rfl); (case hr => first | (go_simp; done) | (go_simp; rfl)); intro gb1574 hg w16 hbox hb; have n0_ := Aside0.mk (below_step (hU HB.out) hb); have n1_ := Aside0.mk (hbox); have n2_ := Aside0.mk ((by rw [hg]; exact (below_size (hU HB.out)) : w.heap.size ≤ gb1574)); have n3_ := Aside0.mk ((by rw [hg]; exact (below_size (hU HB.out)) : w.heap.size ≤ gb1574)); clear HB; have HB := n0_; have BK1574 := n1_; have GW1574 := n2_; have GE1574 := n3_; clear n0_ n1_ n2_ n3_; clear hb hbox hg; have hcz17_0 := blk_cell BK1574.out; have hfz17_0 := blk_frozen BK1574.out) | (go_at_call 29; (with_reducible refine (replica_Check.calls a0_0 _ _ l0_1 t1576 _ ?side1 ?side2 A9.out).mono ?_); (case side1 => repeat (first | exact (Kd.C_below HR0_1.out HB.out) | (with_reducible refine Kd.C_alloc ?_ _) | (with_reducible refine Kd.C_drewN ?_ _) | (with_reducible refine Kd.C_drew ?_))); (case side2 => exact HC0_1.out); rintro e w18 ⟨rfl, hb⟩; replace BK1574 := Aside0.mk (blk_below (bU BK1574.out) hb); replace HB := Aside0.mk (below_step (hU HB.out) hb); (try clear hb); (try clear hb2); (try clear hk); (try clear hi); have hcz19_0 := blk_cell BK1574.out; have hfz19_0 := blk_frozen BK1574.out) | ((with_reducible refine gate_callee (f := 44) rfl ?_); refine goesL_ (some 27) rfl rfl Try.func44 (by kernel_rfl) rfl #[.agg #[.int .i64 a0_0, .slice A0_1 l0_1.length c0_1]] rfl (by (try simp only [List.map_toArray, List.map_cons, List.map_nil]); first | done | rfl | (simp only [List.length_drop, List.length_take]; rfl)) ?_; (with_reducible refine (journal_Write.calls k a0_0 _ _ l0_1 t1577 t1580 _ ?side1 ?side2 A11.out).mono ?_); (case side1 => repeat (first | exact (Kd.C_below HR0_1.out HB.out) | (with_reducible refine Kd.C_alloc ?_ _) | (with_reducible refine Kd.C_drewN ?_ _) | (with_reducible refine Kd.C_drew ?_))); (case side2 => exact HC0_1.out); rintro e w20 ⟨v1578, rfl, ho0, hb⟩; refine ⟨_, rfl, ?_⟩; replace HO1579 := Aside0.mk (Kd.R_lower ho0 (below_size (hU HB.out))); replace BK1574 := Aside0.mk (blk_below (bU BK1574.out) hb); replace HB := Aside0.mk (below_step (hU HB.out) hb); (try clear hb); (try clear hb2); (try clear hk); (try clear hi); (try clear ho0); obtain ⟨Ao21, co21, eo21⟩ := Kd.R_slice HO1579.out; subst eo21; have hcz22_0 := blk_cell BK1574.out; have hfz22_0 := blk_frozen BK1574.out) | (go_at_call 37; (with_reducible refine (dancestudiolaw58_awake.calls k  t1581 _ A15.out).mono ?_); rintro e w23 ⟨rfl, hb⟩; replace HO1579 := Aside0.mk (Kd.R_below (Kd.rU HO1579.out) hb); replace BK1574 := Aside0.mk (blk_below (bU BK1574.out) hb); replace HB := Aside0.mk (below_step (hU HB.out) hb); (try clear hb); (try clear hb2); (try clear hk); (try clear hi)))
    go_ret
    exact ⟨by first | rfl | (simp [errW_none, errW_some] <;> rfl) | (simp [*, errW_none, errW_some] <;> rfl), hU HB.out⟩
   ·rw [if_neg c13] at H
    have c13b0 : ((t1577.length : Int) == 0) = false := beq_eq_false_iff_ne.mpr c13
    have c13b1 : ((t1577.length : Int) != 0) = true := bne_iff_ne.mpr c13
    have c13b2 : ¬ (t1577 = []) := fun h_ => c13 (by rw [h_]; rfl)
    obtain ⟨ji24, hji24⟩ : ∃ j_ : Int, (Int.tmod (wrap64 (a1)) (t1577.length : Int)) = j_ := ⟨_, rfl⟩
    replace H : (if 0 ≤ (ji24) then (if (ji24) < (t1577.length : Int) then ((some (t1577.set ((ji24) : Int).toNat (Go.bits .xor .u8 (rd t1577 (ji24)) a2) : List Int)).bind fun y1583 => ((journal_Recover.f k a0_0 y1583).bind fun bt1584 => (if (ji24) ≤ (t1577.length : Int) then ((journal_Recover.f k a0_0 (y1583.take ((ji24) : Int).toNat)).bind fun bt1595 => (if bt1584.2.2.2 = 0 then (if bt1595.2.2.2 = 0 then (if bt1584.2.2.1 ≥ bt1595.2.2.1 then (if bt1595.2.2.1 ≤ (ji24) then (if (bt1584.2.1.length : Int) ≥ (bt1595.2.1.length : Int) then (if 0 ≤ (bt1595.2.1.length : Int) then (if (bt1595.2.1.length : Int) ≤ (bt1584.2.1.length : Int) then ((dancestudioref58_Edits.f k (bt1584.2.1.take ((bt1595.2.1.length : Int) : Int).toNat) bt1595.2.1).bind fun t1606 => (if t1606 = true then (if (bt1595.2.1.length : Int) ≤ (l0_1.length : Int) then ((dancestudioref58_Edits.f k bt1595.2.1 (l0_1.take ((bt1595.2.1.length : Int) : Int).toNat)).bind fun t1611 => (if t1611 = true then ((dancestudiolaw58_awake.f k).bind fun t1612 => (some t1612)) else (none))) else (none)) else (none))) else (none)) else (none)) else (none)) else (none)) else (none)) else (none)) else (none))) else (none)))) else (none)) else (none)) = some r := by first | (rw [hji24] at H; exact H) | (simp only [hji24] at H ⊢; exact H)
    (try rw [hji24] at A9)
    (try rw [hji24] at A11)
    by_cases c25 : 0 ≤ (ji24)
    rotate_left
    ·rw [if_neg c25] at H
     exact absurd H (by simp)
    rw [if_pos c25] at H
    have c25b0 : decide (0 ≤ (ji24)) = true := decide_eq_true c25
    clear c25
    by_cases c26 : (ji24) < (t1577.length : Int)
    rotate_left
    ·rw [if_neg c26] at H
     exact absurd H (by simp)
    rw [if_pos c26] at H
    have c26b0 : decide ((ji24) < (t1577.length : Int)) = true := decide_eq_true c26
    clear c26
    obtain ⟨y1583, hy1583⟩ : ∃ y_ : List Int, y_ = (t1577.set ((ji24) : Int).toNat (Go.bits .xor .u8 (rd t1577 (ji24)) a2)) := ⟨_, rfl⟩
    replace H : ((journal_Recover.f k a0_0 y1583).bind fun bt1584 => (if (ji24) ≤ (t1577.length : Int) then ((journal_Recover.f k a0_0 (y1583.take ((ji24) : Int).toNat)).bind fun bt1595 => (if bt1584.2.2.2 = 0 then (if bt1595.2.2.2 = 0 then (if bt1584.2.2.1 ≥ bt1595.2.2.1 then (if bt1595.2.2.1 ≤ (ji24) then (if (bt1584.2.1.length : Int) ≥ (bt1595.2.1.length : Int) then (if 0 ≤ (bt1595.2.1.length : Int) then (if (bt1595.2.1.length : Int) ≤ (bt1584.2.1.length : Int) then ((dancestudioref58_Edits.f k (bt1584.2.1.take ((bt1595.2.1.length : Int) : Int).toNat) bt1595.2.1).bind fun t1606 => (if t1606 = true then (if (bt1595.2.1.length : Int) ≤ (l0_1.length : Int) then ((dancestudioref58_Edits.f k bt1595.2.1 (l0_1.take ((bt1595.2.1.length : Int) : Int).toNat)).bind fun t1611 => (if t1611 = true then ((dancestudiolaw58_awake.f k).bind fun t1612 => (some t1612)) else (none))) else (none)) else (none))) else (none)) else (none)) else (none)) else (none)) else (none)) else (none)) else (none))) else (none))) = some r := by first | (rw [hy1583]; with_reducible exact H) | (have H2_ := (Option.bind_some _ _).symm.trans H; rw [hy1583]; with_reducible exact H2_) | (have H2_ := (Option.bind_some _ _).symm.trans H; with_reducible exact H2_) | with_reducible exact H | (rw [hy1583]; exact H) | exact H
    have Ny1583 := Aside0.mk hy1583
    clear hy1583
    replace H := Option.bind_eq_some_iff.mp H
    obtain ⟨⟨t1584, t1585, t1588, t1589⟩, A280, H⟩ := H
    try dsimp only at H
    have A28 := Aside0.mk A280
    clear A280
    have c29b0 := eq_true (of_decide_eq_true (by first | (with_reducible assumption) | assumption) : 0 ≤ (ji24))
    by_cases c30 : (ji24) ≤ (t1577.length : Int)
    rotate_left
    ·rw [if_neg c30] at H
     exact absurd H (by simp)
    rw [if_pos c30] at H
    have c30b0 := eq_true c30
    have c30b1 : decide ((ji24) ≤ (t1577.length : Int)) = true := decide_eq_true c30
    clear c30
    obtain ⟨y1591, hy1591⟩ : ∃ y_ : List Int, y_ = (y1583.take ((ji24) : Int).toNat) := ⟨_, rfl⟩
    replace H : ((journal_Recover.f k a0_0 y1591).bind fun bt1595 => (if t1589 = 0 then (if bt1595.2.2.2 = 0 then (if t1588 ≥ bt1595.2.2.1 then (if bt1595.2.2.1 ≤ (ji24) then (if (t1585.length : Int) ≥ (bt1595.2.1.length : Int) then (if 0 ≤ (bt1595.2.1.length : Int) then (if (bt1595.2.1.length : Int) ≤ (t1585.length : Int) then ((dancestudioref58_Edits.f k (t1585.take ((bt1595.2.1.length : Int) : Int).toNat) bt1595.2.1).bind fun t1606 => (if t1606 = true then (if (bt1595.2.1.length : Int) ≤ (l0_1.length : Int) then ((dancestudioref58_Edits.f k bt1595.2.1 (l0_1.take ((bt1595.2.1.length : Int) : Int).toNat)).bind fun t1611 => (if t1611 = true then ((dancestudiolaw58_awake.f k).bind fun t1612 => (some t1612)) else (none))) else (none)) else (none))) else (none)) else (none)) else (none)) else (none)) else (none)) else (none)) else (none))) = some r := by first | (rw [hy1591]; with_reducible exact H) | (have H2_ := (Option.bind_some _ _).symm.trans H; rw [hy1591]; with_reducible exact H2_) | (have H2_ := (Option.bind_some _ _).symm.trans H; with_reducible exact H2_) | with_reducible exact H | (rw [hy1591]; exact H) | exact H
    have Ny1591 := Aside0.mk hy1591
    clear hy1591
    replace H := Option.bind_eq_some_iff.mp H
    obtain ⟨⟨t1595, t1596, t1599, t1600⟩, A310, H⟩ := H
    try dsimp only at H
    have A31 := Aside0.mk A310
    clear A310
    by_cases c32 : t1589 = 0
    rotate_left
    ·rw [if_neg c32] at H
     exact absurd H (by simp)
    rw [if_pos c32] at H
    have c32b0 : (t1589 == 0) = true := beq_iff_eq.mpr c32
    have c32b1 : (t1589 != 0) = false := bne_eq_false_iff_eq.mpr c32
    clear c32
    by_cases c33 : t1600 = 0
    rotate_left
    ·rw [if_neg c33] at H
     exact absurd H (by simp)
    rw [if_pos c33] at H
    have c33b0 : (t1600 == 0) = true := beq_iff_eq.mpr c33
    have c33b1 : (t1600 != 0) = false := bne_eq_false_iff_eq.mpr c33
    clear c33
    by_cases c34 : t1588 ≥ t1599
    rotate_left
    ·rw [if_neg c34] at H
     exact absurd H (by simp)
    rw [if_pos c34] at H
    have c34b0 : decide (t1599 ≤ t1588) = true := decide_eq_true c34
    clear c34
    by_cases c35 : t1599 ≤ (ji24)
    rotate_left
    ·rw [if_neg c35] at H
     exact absurd H (by simp)
    rw [if_pos c35] at H
    have c35b0 : decide (t1599 ≤ (ji24)) = true := decide_eq_true c35
    clear c35
    by_cases c36 : (t1585.length : Int) ≥ (t1596.length : Int)
    rotate_left
    ·rw [if_neg c36] at H
     exact absurd H (by simp)
    rw [if_pos c36] at H
    have c36b0 : decide ((t1596.length : Int) ≤ (t1585.length : Int)) = true := decide_eq_true c36
    have c36b1 : decide (t1596.length ≤ t1585.length) = true := decide_eq_true (Int.ofNat_le.mp c36)
    clear c36
    by_cases c37 : 0 ≤ (t1596.length : Int)
    rotate_left
    ·rw [if_neg c37] at H
     exact absurd H (by simp)
    rw [if_pos c37] at H
    have c37b0 := eq_true c37
    have c37b1 : decide (0 ≤ (t1596.length : Int)) = true := decide_eq_true c37
    clear c37
    by_cases c38 : (t1596.length : Int) ≤ (t1585.length : Int)
    rotate_left
    ·rw [if_neg c38] at H
     exact absurd H (by simp)
    rw [if_pos c38] at H
    have c38b0 := eq_true c38
    have c38b1 : decide ((t1596.length : Int) ≤ (t1585.length : Int)) = true := decide_eq_true c38
    clear c38
    obtain ⟨y1602, hy1602⟩ : ∃ y_ : List (S30), y_ = (t1585.take ((t1596.length : Int) : Int).toNat) := ⟨_, rfl⟩
    replace H : ((dancestudioref58_Edits.f k y1602 t1596).bind fun t1606 => (if t1606 = true then (if (t1596.length : Int) ≤ (l0_1.length : Int) then ((dancestudioref58_Edits.f k t1596 (l0_1.take ((t1596.length : Int) : Int).toNat)).bind fun t1611 => (if t1611 = true then ((dancestudiolaw58_awake.f k).bind fun t1612 => (some t1612)) else (none))) else (none)) else (none))) = some r := by first | (rw [hy1602]; with_reducible exact H) | (have H2_ := (Option.bind_some _ _).symm.trans H; rw [hy1602]; with_reducible exact H2_) | (have H2_ := (Option.bind_some _ _).symm.trans H; with_reducible exact H2_) | with_reducible exact H | (rw [hy1602]; exact H) | exact H
    have Ny1602 := Aside0.mk hy1602
    clear hy1602
    replace H := Option.bind_eq_some_iff.mp H
    obtain ⟨t1606, A390, H⟩ := H
    try dsimp only at H
    have A39 := Aside0.mk A390
    clear A390
    by_cases c40 : t1606 = true
    rotate_left
    ·replace c40 := Bool.eq_false_iff.mpr c40
     subst c40
     have H1 : (none) = some r := by rw [if_neg (show ¬ (false = true) by decide)] at H; exact H
     clear H
     have H := H1
     clear H1
     exact absurd H (by simp)
    subst c40
    rw [if_pos rfl] at H
    by_cases c41 : (t1596.length : Int) ≤ (l0_1.length : Int)
    rotate_left
    ·rw [if_neg c41] at H
     exact absurd H (by simp)
    rw [if_pos c41] at H
    have c41b0 : decide ((t1596.length : Int) ≤ (l0_1.length : Int)) = true := decide_eq_true c41
    have c41b1 : decide (t1596.length ≤ l0_1.length) = true := decide_eq_true (Int.ofNat_le.mp c41)
    clear c41
    have c42b0 := eq_true (of_decide_eq_true (by first | (with_reducible assumption) | assumption) : 0 ≤ (t1596.length : Int))
    have c43b0 := eq_true (of_decide_eq_true (by first | (with_reducible assumption) | assumption) : (t1596.length : Int) ≤ (l0_1.length : Int))
    obtain ⟨y1607, hy1607⟩ : ∃ y_ : List (S30), y_ = (l0_1.take ((t1596.length : Int) : Int).toNat) := ⟨_, rfl⟩
    replace H : ((dancestudioref58_Edits.f k t1596 y1607).bind fun t1611 => (if t1611 = true then ((dancestudiolaw58_awake.f k).bind fun t1612 => (some t1612)) else (none))) = some r := by first | (rw [hy1607]; with_reducible exact H) | (have H2_ := (Option.bind_some _ _).symm.trans H; rw [hy1607]; with_reducible exact H2_) | (have H2_ := (Option.bind_some _ _).symm.trans H; with_reducible exact H2_) | with_reducible exact H | (rw [hy1607]; exact H) | exact H
    have Ny1607 := Aside0.mk hy1607
    clear hy1607
    replace H := Option.bind_eq_some_iff.mp H
    obtain ⟨t1611, A440, H⟩ := H
    replace H : (if t1611 = true then ((dancestudiolaw58_awake.f k).bind fun t1612 => (some t1612)) else (none)) = some r := H
    have A44 := Aside0.mk A440
    clear A440
    by_cases c45 : t1611 = true
    rotate_left
    ·replace c45 := Bool.eq_false_iff.mpr c45
     subst c45
     have H1 : (none) = some r := by rw [if_neg (show ¬ (false = true) by decide)] at H; exact H
     clear H
     have H := H1
     clear H1
     exact absurd H (by simp)
    subst c45
    have H1 : ((dancestudiolaw58_awake.f k).bind fun t1612 => (some t1612)) = some r := by rw [if_pos rfl] at H; exact H
    clear H
    have H := H1
    clear H1
    replace H := Option.bind_eq_some_iff.mp H
    obtain ⟨t1612, A460, H⟩ := H
    replace H : (some t1612) = some r := H
    have A46 := Aside0.mk A460
    clear A460
    obtain rfl := Option.some.inj H
    go_enter Try.func16, Try.ntmps16
    try go_wp2_with (first | ((with_reducible refine gate_dst (N := 3) rfl ?_); (try (refine gate_guard (by rfl) ?_; dsimp only)); refine box_event ?hg (N := 3) ?hd (cs := #[.int .i64 a0_0, .slice A0_1 l0_1.length c0_1]) (t := 24) ?hr ?_; (case hd => rfl); (case hg => rfl); (case hr => first | (go_simp; done) | (go_simp; rfl)); intro gb1574 hg w47 hbox hb; have n0_ := Aside0.mk (below_step (hU HB.out) hb); have n1_ := Aside0.mk (hbox); have n2_ := Aside0.mk ((by rw [hg]; exact (below_size (hU HB.out)) : w.heap.size ≤ gb1574)); have n3_ := Aside0.mk ((by rw [hg]; exact (below_size (hU HB.out)) : w.heap.size ≤ gb1574)); clear HB; have HB := n0_; have BK1574 := n1_; have GW1574 := n2_; have GE1574 := n3_; clear n0_ n1_ n2_ n3_; clear hb hbox hg; have hcz48_0 := blk_cell BK1574.out; have hfz48_0 := blk_frozen BK1574.out) | (go_at_call 29; (with_reducible refine (replica_Check.calls a0_0 _ _ l0_1 t1576 _ ?side1 ?side2 A9.out).mono ?_); (case side1 => repeat (first | exact (Kd.C_below HR0_1.out HB.out) | (with_reducible refine Kd.C_alloc ?_ _) | (with_reducible refine Kd.C_drewN ?_ _) | (with_reducible refine Kd.C_drew ?_))); (case side2 => exact HC0_1.out); rintro e w49 ⟨rfl, hb⟩; replace BK1574 := Aside0.mk (blk_below (bU BK1574.out) hb); replace HB := Aside0.mk (below_step (hU HB.out) hb); (try clear hb); (try clear hb2); (try clear hk); (try clear hi); have hcz50_0 := blk_cell BK1574.out; have hfz50_0 := blk_frozen BK1574.out) | ((with_reducible refine gate_callee (f := 44) rfl ?_); refine goesL_ (some 27) rfl rfl Try.func44 (by kernel_rfl) rfl #[.agg #[.int .i64 a0_0, .slice A0_1 l0_1.length c0_1]] rfl (by (try simp only [List.map_toArray, List.map_cons, List.map_nil]); first | done | rfl | (simp only [List.length_drop, List.length_take]; rfl)) ?_; (with_reducible refine (journal_Write.calls k a0_0 _ _ l0_1 t1577 t1580 _ ?side1 ?side2 A11.out).mono ?_); (case side1 => repeat (first | exact (Kd.C_below HR0_1.out HB.out) | (with_reducible refine Kd.C_alloc ?_ _) | (with_reducible refine Kd.C_drewN ?_ _) | (with_reducible refine Kd.C_drew ?_))); (case side2 => exact HC0_1.out); rintro e w51 ⟨v1578, rfl, ho0, hb⟩; refine ⟨_, rfl, ?_⟩; replace HO1579 := Aside0.mk (Kd.R_lower ho0 (below_size (hU HB.out))); replace BK1574 := Aside0.mk (blk_below (bU BK1574.out) hb); replace HB := Aside0.mk (below_step (hU HB.out) hb); (try clear hb); (try clear hb2); (try clear hk); (try clear hi); (try clear ho0); obtain ⟨Ao52, co52, eo52⟩ := Kd.R_slice HO1579.out; subst eo52; have p1582 : 0 ≤ ((ji24) : Int) := of_decide_eq_true (by first | (with_reducible assumption) | assumption); have q1582 : (ji24) < (t1577.length : Int) := of_decide_eq_true (by first | (with_reducible assumption) | assumption); obtain ⟨ad1582, e1582, hx1582_0⟩ := Kd.at_int (Kd.R_reads' HO1579.out).2.2 (ji24) p1582 q1582; cases e1582; replace p1582 := eq_true p1582; replace q1582 := eq_true q1582; have p27 : 0 ≤ ((ji24) : Int) := of_decide_eq_true (by first | (with_reducible assumption) | assumption); have q27 : ((ji24) : Int) < ((t1577.length : Int) : Int) := of_decide_eq_true (by first | (with_reducible assumption) | assumption); obtain ⟨go27, co27, eo27, gb27, gl27, cl27, HG27⟩ := Kd.R_form HO1579.out (by omega); (first | cases eo27 | (injection eo27 with ea_ en_ ec_; (first | subst ea_ | (injection ea_ with ea_; subst ea_)); subst ec_; clear en_)); have GB27 := Aside0.mk gb27; have GG27 := Aside0.mk HG27; clear gb27 gl27 HG27; (first | simp only [add_plain] at hx1582_0 | skip); obtain ⟨hx27_0, hf27_0⟩ := Kd.R_celln 0 HO1579.out ((ji24) : Int) p27 q27; replace p27 := eq_true p27; replace q27 := eq_true q27; obtain ⟨hy53_, hz53_⟩ := Kd.R_celln 0 HO1579.out ((ji24) : Int) (of_decide_eq_true (by first | (with_reducible assumption) | assumption)) (of_decide_eq_true (by first | (with_reducible assumption) | assumption)); have HP53 := Kd.R_putg HO1579.out ((ji24) : Int) (Go.bits .xor .u8 (rd t1577 (ji24)) a2)) | ((with_reducible refine gate_store (t := 5) (p := 55) rfl ?_); refine store_event (t := 5) (p := 55) (v := ?vo_w54) (w1 := (w51.setCell ⟨go27, ((ji24) : Int).toNat, none⟩ (.int .u8 (Go.bits .xor .u8 (rd t1577 (ji24)) a2)))) ?hg ?ho ?hn ?hr ?_; (case ho => rfl); (case hg => rfl); (case hn => rfl); (case hr => first | (go_simp; done) | (go_simp; rfl)); intro w54 hw; have hg : w51.grownBy w54 (some go27) := (by rw [hw]; exact HP53.2); have hp_ : Kd.R (Kd.int .u8) 5 w54 w.heap.size (fun _ => True) (.slice (some ⟨go27, 0, none⟩) t1577.length co52) y1583 := (by rw [hw, Ny1583.out]; exact HP53.1); clear HP53; have n0_ := Aside0.mk (blk_grown (bU BK1574.out) hg (Kd.R_ne HO1579.out BK1574.out (by decide))); have n1_ := Aside0.mk (hp_); have n2_ := Aside0.mk ((by rw [hw]; exact below_set (HB.out) GB27.out : Below w.heap.size w w54)); clear BK1574; clear HO1579; clear HB; have BK1574 := n0_; have HO1579 := n1_; have HB := n2_; clear n0_ n1_ n2_; clear hg hw hp_; have hcz55_0 := blk_cell BK1574.out; have hfz55_0 := blk_frozen BK1574.out) | ((with_reducible refine gate_callee (f := 41) rfl ?_); refine goesL_ (some 60) rfl rfl Try.func41 (by kernel_rfl) rfl #[.int .i64 a0_0, .slice (some ⟨go27, 0, none⟩) y1583.length co52] rfl (by (try simp only [List.map_toArray, List.map_cons, List.map_nil]); first | done | (rw [show y1583.length = t1577.length from (Kd.R_reads' HO1579.out).1.symm] <;> rfl) | rfl | (simp only [List.length_drop, List.length_take]; rfl)) ?_; (with_reducible refine (journal_Recover.calls k a0_0 _ _ y1583 t1584 t1585 t1588 t1589 _ ?side1 ?side2 A28.out).mono ?_); (case side1 => repeat (first | exact (Kd.R_reads' HO1579.out).2.2 | (with_reducible refine Kd.C_alloc ?_ _) | (with_reducible refine Kd.C_drewN ?_ _) | (with_reducible refine Kd.C_drew ?_))); (case side2 => rw [show y1583.length = t1577.length from (Kd.R_reads' HO1579.out).1.symm]; exact (Kd.R_reads' HO1579.out).2.1); rintro e w56 ⟨v1586, rfl, ho0, hb⟩; refine ⟨_, rfl, ?_⟩; replace HO1579 := Aside0.mk (Kd.R_below (Kd.rU HO1579.out) hb); replace HO1587 := Aside0.mk (Kd.R_lower ho0 (below_size (hU HB.out))); replace BK1574 := Aside0.mk (blk_below (bU BK1574.out) hb); replace HB := Aside0.mk (below_step (hU HB.out) hb); (try clear hb); (try clear hb2); (try clear hk); (try clear hi); (try clear ho0)) | ((with_reducible refine gate_dst (N := 10) rfl ?_); (try (refine gate_guard (by rfl) ?_; dsimp only)); refine box_event ?hg (N := 10) ?hd (cs := #[.int .i64 0, .slice none 0 0]) (t := 24) ?hr ?_; (case hd => rfl); (case hg => rfl); (case hr => first | (go_simp; done) | (go_simp; rfl)); intro gb1590 hg w57 hbox hb; have n0_ := Aside0.mk (Kd.R_below (Kd.rU HO1579.out) hb); have n1_ := Aside0.mk (Kd.R_below (Kd.rU HO1587.out) hb); have n2_ := Aside0.mk (blk_below (bU BK1574.out) hb); have n3_ := Aside0.mk (below_step (hU HB.out) hb); have n4_ := Aside0.mk (hbox); have n5_ := Aside0.mk ((by rw [hg]; exact (below_size (hU HB.out)) : w.heap.size ≤ gb1590)); have n6_ := Aside0.mk ((by rw [hg]; exact (below_size (hU HB.out)) : w.heap.size ≤ gb1590)); have n7_ := Aside0.mk ((by rw [hg]; exact Nat.ne_of_lt (blk_lt (bU BK1574.out)) : gb1574 ≠ gb1590)); have n8_ := Aside0.mk ((by rw [hg]; exact Nat.ne_of_gt (blk_lt (bU BK1574.out)) : gb1590 ≠ gb1574)); clear HO1579; clear HO1587; clear BK1574; clear HB; have HO1579 := n0_; have HO1587 := n1_; have BK1574 := n2_; have HB := n3_; have BK1590 := n4_; have GW1590 := n5_; have GE1590 := n6_; have NB1574_1590 := n7_; have NB1590_1574 := n8_; clear n0_ n1_ n2_ n3_ n4_ n5_ n6_ n7_ n8_; clear hb hbox hg; have hnb58 := NB1590_1574.out; have hnc58 := NB1574_1590.out; have hcz59_0 := blk_cell BK1590.out; have hfz59_0 := blk_frozen BK1590.out; obtain ⟨Ao60, co60, eo60⟩ := Kd.R_slice HO1587.out; subst eo60))
    have n0_ : Aside0 (Kd.R (Kd.int .u8) 5 ((w57.setCell ⟨gb1590, 0, none⟩ (.int .i64 t1584)).setCell ⟨gb1590, 1, none⟩ (.slice Ao60 t1585.length co60)) w.heap.size (fun _ => True) (.slice (some ⟨go27, 0, none⟩) t1577.length co52) y1583) := ⟨by (with_reducible repeat (first | apply Kd.R_alloc | apply Kd.R_drewN | apply Kd.R_drew)); exact Kd.R_mono (Kd.R_far (p := ⟨gb1590, 1, none⟩) (Kd.R_far (p := ⟨gb1590, 0, none⟩) (Kd.R_types HO1579.out BK1590.out (by decide)) (fun _ hk => hk.2) (.int .i64 t1584)) (fun _ hk => hk.2) (.slice Ao60 t1585.length co60)) (fun _ hk => trivial)⟩
    have n1_ : Aside0 (Kd.R k30 30 ((w57.setCell ⟨gb1590, 0, none⟩ (.int .i64 t1584)).setCell ⟨gb1590, 1, none⟩ (.slice Ao60 t1585.length co60)) w.heap.size (fun _ => True) (.slice Ao60 t1585.length co60) t1585) := ⟨by (with_reducible repeat (first | apply Kd.R_alloc | apply Kd.R_drewN | apply Kd.R_drew)); exact Kd.R_mono (Kd.R_far (p := ⟨gb1590, 1, none⟩) (Kd.R_far (p := ⟨gb1590, 0, none⟩) (Kd.R_types HO1587.out BK1590.out (by decide)) (fun _ hk => hk.2) (.int .i64 t1584)) (fun _ hk => hk.2) (.slice Ao60 t1585.length co60)) (fun _ hk => trivial)⟩
    have n2_ : Aside0 (((w57.setCell ⟨gb1590, 0, none⟩ (.int .i64 t1584)).setCell ⟨gb1590, 1, none⟩ (.slice Ao60 t1585.length co60)).heap[gb1574]? = some (.cells #[.int .i64 a0_0, .slice A0_1 l0_1.length c0_1] 24 (0, 0))) := ⟨by (with_reducible repeat (first | refine blk_drewN ?_ _ | refine blk_drew ?_ | refine blk_alloc ?_ _)); refine (Below.heap_setCell _ ⟨_, _, none⟩ _ _ NB1574_1590.out).trans ?_; (with_reducible repeat (first | refine blk_drewN ?_ _ | refine blk_drew ?_ | refine blk_alloc ?_ _)); refine (Below.heap_setCell _ ⟨_, _, none⟩ _ _ NB1574_1590.out).trans ?_; (with_reducible repeat (first | refine blk_drewN ?_ _ | refine blk_drew ?_ | refine blk_alloc ?_ _)); exact BK1574.out⟩
    have n3_ : Aside0 (((w57.setCell ⟨gb1590, 0, none⟩ (.int .i64 t1584)).setCell ⟨gb1590, 1, none⟩ (.slice Ao60 t1585.length co60)).heap[gb1590]? = some (.cells #[.int .i64 t1584, .slice Ao60 t1585.length co60] 24 (0, 0))) := ⟨by (with_reducible repeat (first | refine blk_drewN ?_ _ | refine blk_drew ?_ | refine blk_alloc ?_ _)); refine blk_put (cs := #[.int .i64 t1584, .slice none 0 0]) ?_ 1 _ rfl; (with_reducible repeat (first | refine blk_drewN ?_ _ | refine blk_drew ?_ | refine blk_alloc ?_ _)); refine blk_put (cs := #[.int .i64 0, .slice none 0 0]) ?_ 0 _ rfl; (with_reducible repeat (first | refine blk_drewN ?_ _ | refine blk_drew ?_ | refine blk_alloc ?_ _)); exact BK1590.out⟩
    have n4_ : Aside0 (Below w.heap.size w ((w57.setCell ⟨gb1590, 0, none⟩ (.int .i64 t1584)).setCell ⟨gb1590, 1, none⟩ (.slice Ao60 t1585.length co60))) := ⟨hU HB.out⟩
    (try clear HO1579)
    (try clear HO1587)
    (try clear BK1574)
    (try clear BK1590)
    (try clear HB)
    generalize ((w57.setCell ⟨gb1590, 0, none⟩ (.int .i64 t1584)).setCell ⟨gb1590, 1, none⟩ (.slice Ao60 t1585.length co60)) = w61 at n0_ n1_ n2_ n3_ n4_ ⊢
    have HO1579 := n0_
    have HO1587 := n1_
    have BK1574 := n2_
    have BK1590 := n3_
    have HB := n4_
    clear n0_ n1_ n2_ n3_ n4_
    have n0_ := Aside0.mk (Kd.R_drew HO1579.out)
    have n1_ := Aside0.mk (Kd.R_drew HO1587.out)
    have n2_ := Aside0.mk (blk_drew BK1574.out)
    have n3_ := Aside0.mk (blk_drew BK1590.out)
    have n4_ := Aside0.mk (below_drew1 HB.out)
    clear HO1579
    clear HO1587
    clear BK1574
    clear BK1590
    clear HB
    have HO1579 := n0_
    have HO1587 := n1_
    have BK1574 := n2_
    have BK1590 := n3_
    have HB := n4_
    clear n0_ n1_ n2_ n3_ n4_
    have hlx63 := (Kd.R_reads' HO1579.out).1
    have q63 : ((ji24) : Int) ≤ ((t1577.length : Int) : Int) := of_decide_eq_true (by first | (with_reducible assumption) | assumption)
    obtain ⟨i063, hi063, _, hsz63, _⟩ := info_parts info5
    have hroom63 : t1577.length ≤ co52 := (Kd.R_reads' HO1579.out).2.1
    have hroomc63 : y1583.length ≤ co52 := (by rw [← hlx63]; exact hroom63)
    have hC63 : Kd.C (Kd.int .u8) _ (some ⟨go27, 0, none⟩) y1583.length y1583 := (Kd.R_reads' HO1579.out).2.2
    have hcut63 := cut_to (P := Try.prog) 60 5 .i64 Try.underlying60 hi063 (some ⟨go27, 0, none⟩) t1577.length co52 (ji24) (of_decide_eq_true (by first | (with_reducible assumption) | assumption)) q63 hroom63
    have hr63 := Kd.C_take (m := ((ji24) : Int).toNat) hC63 (by omega)
    have hy63 : y1591.length = ((ji24) : Int).toNat := (by rw [Ny1591.out, List.length_take]; omega)
    rw [← Ny1591.out] at hr63
    rw [← hy63] at hcut63
    have HR1594 := Aside0.mk hr63
    have HC1594 := Aside0.mk (show y1591.length ≤ co52 from by omega)
    clear hr63 hC63 hroom63 hi063 hsz63 hroomc63
    have KY63 := Aside0.mk hy63
    clear hy63
    have KE63 := Aside0.mk hlx63
    have KL63 := Aside0.mk (show ((ji24) : Int).toNat ≤ y1583.length from by omega)
    clear hlx63
    replace q63 := eq_true q63
    refine start_ (n := 14) (S := fun w' => w'.cell? ⟨gb1574, 0, none⟩ = some (.int .i64 a0_0) ∧ w'.cell? ⟨gb1574, 1, none⟩ = some (.slice A0_1 l0_1.length c0_1)) (ds := []) #[false, false, false, false, false, false, false, false, false, false, false, false, false, false] (by kernel_rfl) rfl rfl ⟨(blk_cell BK1574.out 0).trans rfl, (blk_cell BK1574.out 1).trans rfl⟩ (fun hHeld => ?_); refine with_tabW dancestudiolaw58_JournalSpoilt.tab11 dancestudiolaw58_JournalSpoilt.bits11 (fun HT_ HW_ => ?_)
    generalize w61.drew = w62 at HO1579 HO1587 BK1574 BK1590 HB HR1594 hHeld ⊢
    refine puA 0 65 (bs 14 1) ?_
    refine puA 2 67 (bs 14 5) ?_
    refine puA 3 68 (bs 14 13) ?_
    refine puA 4 69 (bs 14 29) ?_
    refine tkA 1 66 (bs 14 31) hHeld ?_
    refine join_ (σ := Value × Nat) 3 #[true, true, true, true, true, true, true, true, true, true, true, false, false, false] (fun s_ => [(70, .tuple #[.agg #[.int .i64 t1595, s_.1], .int .i64 t1599, .int .i64 t1600]), (12, .pointer (some ⟨s_.2, 0, none⟩)), (64, .tuple #[.agg #[.int .i64 t1595, s_.1], .int .i64 t1599, .int .i64 t1600]), (71, .agg #[.int .i64 t1595, s_.1]), (72, .int .i64 t1599), (73, .int .i64 t1600)]) (fun s_ w' => (w'.cell? ⟨gb1574, 0, none⟩ = some (.int .i64 a0_0) ∧ w'.cell? ⟨gb1574, 1, none⟩ = some (.slice A0_1 l0_1.length c0_1)) ∧ (Kd.R (Kd.int .u8) 5 w' w.heap.size (fun _ => True) (.slice (some ⟨go27, 0, none⟩) t1577.length co52) y1583) ∧ (Kd.R k30 30 w' w.heap.size (fun k_ => some k_ ≠ (s_.1 : Value).ownBlock) (.slice Ao60 t1585.length co60) t1585) ∧ (Kd.R k30 30 w' w.heap.size (fun k_ => some k_ ≠ (.slice Ao60 t1585.length co60 : Value).ownBlock) s_.1 t1596) ∧ (w'.heap[gb1574]? = some (.cells #[.int .i64 a0_0, .slice A0_1 l0_1.length c0_1] 24 (0, 0))) ∧ (w'.heap[gb1590]? = some (.cells #[.int .i64 t1584, .slice Ao60 t1585.length co60] 24 (0, 0))) ∧ (w'.heap[s_.2]? = some (.cells #[.int .i64 0, .slice none 0 0] 24 (0, 0))) ∧ (w.heap.size ≤ s_.2) ∧ (w.heap.size ≤ s_.2) ∧ (gb1574 ≠ s_.2) ∧ (s_.2 ≠ gb1574) ∧ (gb1590 ≠ s_.2) ∧ (s_.2 ≠ gb1590) ∧ (Below w.heap.size w w')) ?_ ?_
    rotate_left
    ·intro hCont
     refine two_ (i := 5) (j := 10) (Ni := some 70) (Nj := some 12) #[true, true, true, true, true, true, false, false, false, false, false, false, false, false] #[true, true, true, true, true, false, false, false, false, false, true, false, false, false] rfl rfl rfl rfl (two_of HT_.out (by kernel_rfl)) (by decide) (by decide) (fun K hK => ?_) (fun K hK => ?_)
     ·skip
      refine goes_ Try.func41 (by kernel_rfl) rfl #[.int .i64 a0_0, .slice (some ⟨go27, 0, none⟩) y1591.length co52] (by rfl) rfl rfl (by (try simp only [List.map_toArray, List.map_cons, List.map_nil]); first | done | rfl | (simp only [List.length_drop, List.length_take]; rfl)) ?_
      with_reducible refine (journal_Recover.calls k a0_0 _ _ y1591 t1595 t1596 t1599 t1600 _ ?side1 ?side2 A31.out).mono ?_
      (case side1 => repeat (first | exact (by repeat (first | (with_reducible exact HR1594.out) | (with_reducible refine Kd.C_alloc ?_ _) | (with_reducible refine Kd.C_drewN ?_ _) | (with_reducible refine Kd.C_drew ?_) | exact HR1594.out)) | (with_reducible refine Kd.C_alloc ?_ _) | (with_reducible refine Kd.C_drewN ?_ _) | (with_reducible refine Kd.C_drew ?_)))
      (case side2 => exact HC1594.out)
      rintro e w64 ⟨v1597, rfl, ho0, hb⟩
      refine ⟨_, rfl, ?_⟩
      replace HO1579 := Aside0.mk (Kd.R_below (Kd.rU HO1579.out) hb)
      replace HO1598 := Aside0.mk (Kd.R_lower (Kd.R_new' ho0 (Kd.R_lt (Kd.rU HO1587.out))) (below_size (hU HB.out)))
      replace HO1587 := Aside0.mk (Kd.R_elder' (Kd.rU HO1587.out) (Kd.R_base ho0) hb)
      replace BK1574 := Aside0.mk (blk_below (bU BK1574.out) hb)
      replace BK1590 := Aside0.mk (blk_below (bU BK1590.out) hb)
      replace HR1594 := Aside0.mk (Kd.C_below (by repeat (first | (with_reducible exact HR1594.out) | (with_reducible refine Kd.C_alloc ?_ _) | (with_reducible refine Kd.C_drewN ?_ _) | (with_reducible refine Kd.C_drew ?_) | exact HR1594.out)) hb)
      replace HB := Aside0.mk (below_step (hU HB.out) hb)
      (try clear hb)
      (try clear hb2)
      (try clear hk)
      (try clear hi)
      (try clear ho0)
      refine hK.out _ _ ⟨(blk_cell BK1574.out 0).trans rfl, (blk_cell BK1574.out 1).trans rfl⟩ (fun hHeld => ?_)
      clear hK K
      refine nmA 70 ?_
      refine puA 6 64 (bs 14 127) ?_
      refine puA 7 71 (bs 14 255) ?_
      refine puA 8 72 (bs 14 511) ?_
      refine puA 9 73 (bs 14 1023) ?_
      refine one_ (i := 10) (N := some 12) (bs 14 2047) rfl rfl (one_of HT_.out (by kernel_rfl)) (by decide) (fun K hK => ?_)
      refine box_step ?hg (N := 12) ?hd (cs := #[.int .i64 0, .slice none 0 0]) (t := 24) ?hr ?_; (case hd => rfl); (case hg => rfl); (case hr => first | (go_simp; done) | (go_simp; rfl))
      intro gb1601 hg w65 hbox hb
      have n0_ := Aside0.mk (Kd.R_below (Kd.rU HO1579.out) hb)
      have n1_ := Aside0.mk (Kd.R_below (Kd.rU HO1587.out) hb)
      have n2_ := Aside0.mk (Kd.R_below (Kd.rU HO1598.out) hb)
      have n3_ := Aside0.mk (blk_below (bU BK1574.out) hb)
      have n4_ := Aside0.mk (blk_below (bU BK1590.out) hb)
      have n5_ := Aside0.mk (Kd.C_below (by repeat (first | (with_reducible exact HR1594.out) | (with_reducible refine Kd.C_alloc ?_ _) | (with_reducible refine Kd.C_drewN ?_ _) | (with_reducible refine Kd.C_drew ?_) | exact HR1594.out)) hb)
      have n6_ := Aside0.mk (below_step (hU HB.out) hb)
      have n7_ := Aside0.mk (hbox)
      have n8_ := Aside0.mk ((by rw [hg]; exact (below_size (hU HB.out)) : w.heap.size ≤ gb1601))
      have n9_ := Aside0.mk ((by rw [hg]; exact (below_size (hU HB.out)) : w.heap.size ≤ gb1601))
      have n10_ := Aside0.mk ((by rw [hg]; exact Nat.ne_of_lt (blk_lt (bU BK1574.out)) : gb1574 ≠ gb1601))
      have n11_ := Aside0.mk ((by rw [hg]; exact Nat.ne_of_gt (blk_lt (bU BK1574.out)) : gb1601 ≠ gb1574))
      have n12_ := Aside0.mk ((by rw [hg]; exact Nat.ne_of_lt (blk_lt (bU BK1590.out)) : gb1590 ≠ gb1601))
      have n13_ := Aside0.mk ((by rw [hg]; exact Nat.ne_of_gt (blk_lt (bU BK1590.out)) : gb1601 ≠ gb1590))
      clear HO1579
      clear HO1587
      clear HO1598
      clear BK1574
      clear BK1590
      clear HR1594
      clear HB
      have HO1579 := n0_
      have HO1587 := n1_
      have HO1598 := n2_
      have BK1574 := n3_
      have BK1590 := n4_
      have HR1594 := n5_
      have HB := n6_
      have BK1601 := n7_
      have GW1601 := n8_
      have GE1601 := n9_
      have NB1574_1601 := n10_
      have NB1601_1574 := n11_
      have NB1590_1601 := n12_
      have NB1601_1590 := n13_
      clear n0_ n1_ n2_ n3_ n4_ n5_ n6_ n7_ n8_ n9_ n10_ n11_ n12_ n13_
      clear hb hbox hg
      refine hK.out _ _ ⟨(blk_cell BK1574.out 0).trans rfl, (blk_cell BK1574.out 1).trans rfl⟩ (fun hHeld => ?_)
      clear hK K
      refine nmA 12 ?_
      exact norm_ (by simp only [putAll, Act.put, List.setIfInBounds_toArray, List.set_cons_zero, List.set_cons_succ]) (hCont (v1597, gb1601) _ ⟨hHeld, (Kd.rU HO1579.out), (by (with_reducible repeat (first | apply Kd.R_alloc | apply Kd.R_drewN | apply Kd.R_drew)); exact Kd.R_mono HO1587.out (fun _ hk => hk.2)), (by (with_reducible repeat (first | apply Kd.R_alloc | apply Kd.R_drewN | apply Kd.R_drew)); exact Kd.R_mono HO1598.out (fun _ hk => hk.2)), (bU BK1574.out), (bU BK1590.out), (bU BK1601.out), GW1601.out, GE1601.out, NB1574_1601.out, NB1601_1574.out, NB1590_1601.out, NB1601_1590.out, (hU HB.out)⟩)
     ·skip
      refine box_step ?hg (N := 12) ?hd (cs := #[.int .i64 0, .slice none 0 0]) (t := 24) ?hr ?_; (case hd => rfl); (case hg => rfl); (case hr => first | (go_simp; done) | (go_simp; rfl))
      intro gb1601 hg w64 hbox hb
      have n0_ := Aside0.mk (Kd.R_below (Kd.rU HO1579.out) hb)
      have n1_ := Aside0.mk (Kd.R_below (Kd.rU HO1587.out) hb)
      have n2_ := Aside0.mk (blk_below (bU BK1574.out) hb)
      have n3_ := Aside0.mk (blk_below (bU BK1590.out) hb)
      have n4_ := Aside0.mk (Kd.C_below (by repeat (first | (with_reducible exact HR1594.out) | (with_reducible refine Kd.C_alloc ?_ _) | (with_reducible refine Kd.C_drewN ?_ _) | (with_reducible refine Kd.C_drew ?_) | exact HR1594.out)) hb)
      have n5_ := Aside0.mk (below_step (hU HB.out) hb)
      have n6_ := Aside0.mk (hbox)
      have n7_ := Aside0.mk ((by rw [hg]; exact (below_size (hU HB.out)) : w.heap.size ≤ gb1601))
      have n8_ := Aside0.mk ((by rw [hg]; exact (below_size (hU HB.out)) : w.heap.size ≤ gb1601))
      have n9_ := Aside0.mk ((by rw [hg]; exact Nat.ne_of_lt (blk_lt (bU BK1574.out)) : gb1574 ≠ gb1601))
      have n10_ := Aside0.mk ((by rw [hg]; exact Nat.ne_of_gt (blk_lt (bU BK1574.out)) : gb1601 ≠ gb1574))
      have n11_ := Aside0.mk ((by rw [hg]; exact Nat.ne_of_lt (blk_lt (bU BK1590.out)) : gb1590 ≠ gb1601))
      have n12_ := Aside0.mk ((by rw [hg]; exact Nat.ne_of_gt (blk_lt (bU BK1590.out)) : gb1601 ≠ gb1590))
      clear HO1579
      clear HO1587
      clear BK1574
      clear BK1590
      clear HR1594
      clear HB
      have HO1579 := n0_
      have HO1587 := n1_
      have BK1574 := n2_
      have BK1590 := n3_
      have HR1594 := n4_
      have HB := n5_
      have BK1601 := n6_
      have GW1601 := n7_
      have GE1601 := n8_
      have NB1574_1601 := n9_
      have NB1601_1574 := n10_
      have NB1590_1601 := n11_
      have NB1601_1590 := n12_
      clear n0_ n1_ n2_ n3_ n4_ n5_ n6_ n7_ n8_ n9_ n10_ n11_ n12_
      clear hb hbox hg
      refine hK.out _ _ ⟨(blk_cell BK1574.out 0).trans rfl, (blk_cell BK1574.out 1).trans rfl⟩ (fun hHeld => ?_)
      clear hK K
      refine nmA 12 ?_
      refine one_ (i := 5) (N := some 70) (bs 14 1087) rfl rfl (one_of HT_.out (by kernel_rfl)) (by decide) (fun K hK => ?_)
      refine goes_ Try.func41 (by kernel_rfl) rfl #[.int .i64 a0_0, .slice (some ⟨go27, 0, none⟩) y1591.length co52] (by rfl) rfl rfl (by (try simp only [List.map_toArray, List.map_cons, List.map_nil]); first | done | rfl | (simp only [List.length_drop, List.length_take]; rfl)) ?_
      with_reducible refine (journal_Recover.calls k a0_0 _ _ y1591 t1595 t1596 t1599 t1600 _ ?side1 ?side2 A31.out).mono ?_
      (case side1 => repeat (first | exact (by repeat (first | (with_reducible exact HR1594.out) | (with_reducible refine Kd.C_alloc ?_ _) | (with_reducible refine Kd.C_drewN ?_ _) | (with_reducible refine Kd.C_drew ?_) | exact HR1594.out)) | (with_reducible refine Kd.C_alloc ?_ _) | (with_reducible refine Kd.C_drewN ?_ _) | (with_reducible refine Kd.C_drew ?_)))
      (case side2 => exact HC1594.out)
      rintro e w65 ⟨v1597, rfl, ho0, hb⟩
      refine ⟨_, rfl, ?_⟩
      replace HO1579 := Aside0.mk (Kd.R_below (Kd.rU HO1579.out) hb)
      replace HO1598 := Aside0.mk (Kd.R_lower (Kd.R_new' ho0 (Kd.R_lt (Kd.rU HO1587.out))) (below_size (hU HB.out)))
      replace HO1587 := Aside0.mk (Kd.R_elder' (Kd.rU HO1587.out) (Kd.R_base ho0) hb)
      replace BK1574 := Aside0.mk (blk_below (bU BK1574.out) hb)
      replace BK1590 := Aside0.mk (blk_below (bU BK1590.out) hb)
      replace HR1594 := Aside0.mk (Kd.C_below (by repeat (first | (with_reducible exact HR1594.out) | (with_reducible refine Kd.C_alloc ?_ _) | (with_reducible refine Kd.C_drewN ?_ _) | (with_reducible refine Kd.C_drew ?_) | exact HR1594.out)) hb)
      replace BK1601 := Aside0.mk (blk_below (bU BK1601.out) hb)
      replace HB := Aside0.mk (below_step (hU HB.out) hb)
      (try clear hb)
      (try clear hb2)
      (try clear hk)
      (try clear hi)
      (try clear ho0)
      refine hK.out _ _ ⟨(blk_cell BK1574.out 0).trans rfl, (blk_cell BK1574.out 1).trans rfl⟩ (fun hHeld => ?_)
      clear hK K
      refine nmA 70 ?_
      refine puA 6 64 (bs 14 1151) ?_
      refine puA 7 71 (bs 14 1279) ?_
      refine puA 8 72 (bs 14 1535) ?_
      refine puA 9 73 (bs 14 2047) ?_
      exact norm_ (by simp only [putAll, Act.put, List.setIfInBounds_toArray, List.set_cons_zero, List.set_cons_succ]) (hCont (v1597, gb1601) _ ⟨hHeld, (Kd.rU HO1579.out), (by (with_reducible repeat (first | apply Kd.R_alloc | apply Kd.R_drewN | apply Kd.R_drew)); exact Kd.R_mono HO1587.out (fun _ hk => hk.2)), (by (with_reducible repeat (first | apply Kd.R_alloc | apply Kd.R_drewN | apply Kd.R_drew)); exact Kd.R_mono HO1598.out (fun _ hk => hk.2)), (bU BK1574.out), (bU BK1590.out), (bU BK1601.out), GW1601.out, GE1601.out, NB1574_1601.out, NB1601_1574.out, NB1590_1601.out, NB1601_1590.out, (hU HB.out)⟩)
    rintro ⟨v1597, gb1601⟩ w66 ⟨hS_, h0_, h1_, h2_, h3_, h4_, h5_, h6_, h7_, h8_, h9_, h10_, h11_, h12_⟩
    have n0_ : Aside0 (Kd.R (Kd.int .u8) 5 w66 w.heap.size (fun _ => True) (.slice (some ⟨go27, 0, none⟩) t1577.length co52) y1583) := ⟨h0_⟩
    have n1_ : Aside0 (Kd.R k30 30 w66 w.heap.size (fun k_ => some k_ ≠ (v1597 : Value).ownBlock) (.slice Ao60 t1585.length co60) t1585) := ⟨h1_⟩
    have n2_ : Aside0 (Kd.R k30 30 w66 w.heap.size (fun k_ => some k_ ≠ (.slice Ao60 t1585.length co60 : Value).ownBlock) v1597 t1596) := ⟨h2_⟩
    have n3_ : Aside0 (w66.heap[gb1574]? = some (.cells #[.int .i64 a0_0, .slice A0_1 l0_1.length c0_1] 24 (0, 0))) := ⟨h3_⟩
    have n4_ : Aside0 (w66.heap[gb1590]? = some (.cells #[.int .i64 t1584, .slice Ao60 t1585.length co60] 24 (0, 0))) := ⟨h4_⟩
    have n5_ : Aside0 (w66.heap[gb1601]? = some (.cells #[.int .i64 0, .slice none 0 0] 24 (0, 0))) := ⟨h5_⟩
    have n6_ : Aside0 (w.heap.size ≤ gb1601) := ⟨h6_⟩
    have n7_ : Aside0 (w.heap.size ≤ gb1601) := ⟨h7_⟩
    have n8_ : Aside0 (gb1574 ≠ gb1601) := ⟨h8_⟩
    have n9_ : Aside0 (gb1601 ≠ gb1574) := ⟨h9_⟩
    have n10_ : Aside0 (gb1590 ≠ gb1601) := ⟨h10_⟩
    have n11_ : Aside0 (gb1601 ≠ gb1590) := ⟨h11_⟩
    have n12_ : Aside0 (Below w.heap.size w w66) := ⟨h12_⟩
    clear HO1579
    clear HO1587
    clear BK1574
    clear BK1590
    clear HB
    clear h0_ h1_ h2_ h3_ h4_ h5_ h6_ h7_ h8_ h9_ h10_ h11_ h12_
    have HO1579 := n0_
    have HO1587 := n1_
    have HO1598 := n2_
    have BK1574 := n3_
    have BK1590 := n4_
    have BK1601 := n5_
    have GW1601 := n6_
    have GE1601 := n7_
    have NB1574_1601 := n8_
    have NB1601_1574 := n9_
    have NB1590_1601 := n10_
    have NB1601_1590 := n11_
    have HB := n12_
    clear n0_ n1_ n2_ n3_ n4_ n5_ n6_ n7_ n8_ n9_ n10_ n11_ n12_
    have hHeld : w66.cell? ⟨gb1574, 0, none⟩ = some (.int .i64 a0_0) ∧ w66.cell? ⟨gb1574, 1, none⟩ = some (.slice A0_1 l0_1.length c0_1) := hS_
    obtain ⟨Ao68, co68, eo68⟩ := Kd.R_slice HO1598.out
    (first | subst eo68 | (injection eo68 with f1_ f2_ f3_; have f4_ := f1_.symm; have f5_ := f3_.symm; clear f1_ f2_ f3_; subst f4_; subst f5_))
    refine norm_ (a' := ?_) ?_ ?_
    rotate_left
    ·simp only [putAll, Act.put, List.setIfInBounds_toArray, List.set_cons_zero, List.set_cons_succ]
     rfl
    refine one_ (i := 11) (N := none) #[true, true, true, true, true, true, true, true, true, true, true, true, false, false] rfl rfl (one_of HT_.out (by kernel_rfl)) (by decide) (fun K hK => ?_)
    have hs67 : w66.cell? ⟨gb1601, 0, none⟩ = some (.int .i64 0) := (blk_cell BK1601.out 0).trans rfl
    have hfs67 := blk_frozen BK1601.out 0
    have hns67_0 := NB1574_1601.out
    have hns67_1 := NB1590_1601.out
    have hms67_0 := NB1601_1574.out
    have hms67_1 := NB1601_1590.out
    have hs69 : w66.cell? ⟨gb1601, 1, none⟩ = some (.slice none 0 0) := (blk_cell BK1601.out 1).trans rfl
    have hfs69 := blk_frozen BK1601.out 1
    have hns69_0 := NB1574_1601.out
    have hns69_1 := NB1590_1601.out
    have hms69_0 := NB1601_1574.out
    have hms69_1 := NB1601_1590.out
    refine skip_ (w1 := ?_) (by rfl) rfl ?_ ?_
    rotate_left
    ·go_simp
     rfl
    refine hK.out _ _ ⟨((cell_far (p := ⟨gb1601, _, none⟩) NB1574_1601.out _).trans (((cell_far (p := ⟨gb1601, _, none⟩) NB1574_1601.out _).trans (hHeld.1)))), ((cell_far (p := ⟨gb1601, _, none⟩) NB1574_1601.out _).trans (((cell_far (p := ⟨gb1601, _, none⟩) NB1574_1601.out _).trans (hHeld.2))))⟩ (fun hHeld => ?_)
    clear hK K
    refine puA 12 13 (bs 14 8191) ?_
    refine puA 13 14 (bs 14 16383) ?_
    refine done_ (done_of HT_.out (by kernel_rfl)) ?_
    try go_wp2
    have n0_ : Aside0 (Kd.R (Kd.int .u8) 5 ((w66.setCell ⟨gb1601, 0, none⟩ (.int .i64 t1595)).setCell ⟨gb1601, 1, none⟩ (.slice Ao68 t1596.length co68)) w.heap.size (fun _ => True) (.slice (some ⟨go27, 0, none⟩) t1577.length co52) y1583) := ⟨by (with_reducible repeat (first | apply Kd.R_alloc | apply Kd.R_drewN | apply Kd.R_drew)); exact Kd.R_mono (Kd.R_far (p := ⟨gb1601, 1, none⟩) (Kd.R_far (p := ⟨gb1601, 0, none⟩) (Kd.R_types HO1579.out BK1601.out (by decide)) (fun _ hk => hk.2) (.int .i64 t1595)) (fun _ hk => hk.2) (.slice Ao68 t1596.length co68)) (fun _ hk => trivial)⟩
    have n1_ : Aside0 (Kd.R k30 30 ((w66.setCell ⟨gb1601, 0, none⟩ (.int .i64 t1595)).setCell ⟨gb1601, 1, none⟩ (.slice Ao68 t1596.length co68)) w.heap.size (fun k_ => some k_ ≠ (.slice Ao68 t1596.length co68 : Value).ownBlock) (.slice Ao60 t1585.length co60) t1585) := ⟨by (with_reducible repeat (first | apply Kd.R_alloc | apply Kd.R_drewN | apply Kd.R_drew)); exact Kd.R_mono (Kd.R_far (p := ⟨gb1601, 1, none⟩) (Kd.R_far (p := ⟨gb1601, 0, none⟩) (Kd.R_types HO1587.out BK1601.out (by decide)) (fun _ hk => hk.2) (.int .i64 t1595)) (fun _ hk => hk.2) (.slice Ao68 t1596.length co68)) (fun _ hk => hk.1)⟩
    have n2_ : Aside0 (Kd.R k30 30 ((w66.setCell ⟨gb1601, 0, none⟩ (.int .i64 t1595)).setCell ⟨gb1601, 1, none⟩ (.slice Ao68 t1596.length co68)) w.heap.size (fun k_ => some k_ ≠ (.slice Ao60 t1585.length co60 : Value).ownBlock) (.slice Ao68 t1596.length co68) t1596) := ⟨by (with_reducible repeat (first | apply Kd.R_alloc | apply Kd.R_drewN | apply Kd.R_drew)); exact Kd.R_mono (Kd.R_far (p := ⟨gb1601, 1, none⟩) (Kd.R_far (p := ⟨gb1601, 0, none⟩) (Kd.R_types HO1598.out BK1601.out (by decide)) (fun _ hk => hk.2) (.int .i64 t1595)) (fun _ hk => hk.2) (.slice Ao68 t1596.length co68)) (fun _ hk => hk.1)⟩
    have n3_ : Aside0 (((w66.setCell ⟨gb1601, 0, none⟩ (.int .i64 t1595)).setCell ⟨gb1601, 1, none⟩ (.slice Ao68 t1596.length co68)).heap[gb1574]? = some (.cells #[.int .i64 a0_0, .slice A0_1 l0_1.length c0_1] 24 (0, 0))) := ⟨by (with_reducible repeat (first | refine blk_drewN ?_ _ | refine blk_drew ?_ | refine blk_alloc ?_ _)); refine (Below.heap_setCell _ ⟨_, _, none⟩ _ _ NB1574_1601.out).trans ?_; (with_reducible repeat (first | refine blk_drewN ?_ _ | refine blk_drew ?_ | refine blk_alloc ?_ _)); refine (Below.heap_setCell _ ⟨_, _, none⟩ _ _ NB1574_1601.out).trans ?_; (with_reducible repeat (first | refine blk_drewN ?_ _ | refine blk_drew ?_ | refine blk_alloc ?_ _)); exact BK1574.out⟩
    have n4_ : Aside0 (((w66.setCell ⟨gb1601, 0, none⟩ (.int .i64 t1595)).setCell ⟨gb1601, 1, none⟩ (.slice Ao68 t1596.length co68)).heap[gb1590]? = some (.cells #[.int .i64 t1584, .slice Ao60 t1585.length co60] 24 (0, 0))) := ⟨by (with_reducible repeat (first | refine blk_drewN ?_ _ | refine blk_drew ?_ | refine blk_alloc ?_ _)); refine (Below.heap_setCell _ ⟨_, _, none⟩ _ _ NB1590_1601.out).trans ?_; (with_reducible repeat (first | refine blk_drewN ?_ _ | refine blk_drew ?_ | refine blk_alloc ?_ _)); refine (Below.heap_setCell _ ⟨_, _, none⟩ _ _ NB1590_1601.out).trans ?_; (with_reducible repeat (first | refine blk_drewN ?_ _ | refine blk_drew ?_ | refine blk_alloc ?_ _)); exact BK1590.out⟩
    have n5_ : Aside0 (((w66.setCell ⟨gb1601, 0, none⟩ (.int .i64 t1595)).setCell ⟨gb1601, 1, none⟩ (.slice Ao68 t1596.length co68)).heap[gb1601]? = some (.cells #[.int .i64 t1595, .slice Ao68 t1596.length co68] 24 (0, 0))) := ⟨by (with_reducible repeat (first | refine blk_drewN ?_ _ | refine blk_drew ?_ | refine blk_alloc ?_ _)); refine blk_put (cs := #[.int .i64 t1595, .slice none 0 0]) ?_ 1 _ rfl; (with_reducible repeat (first | refine blk_drewN ?_ _ | refine blk_drew ?_ | refine blk_alloc ?_ _)); refine blk_put (cs := #[.int .i64 0, .slice none 0 0]) ?_ 0 _ rfl; (with_reducible repeat (first | refine blk_drewN ?_ _ | refine blk_drew ?_ | refine blk_alloc ?_ _)); exact BK1601.out⟩
    have n6_ : Aside0 (Below w.heap.size w ((w66.setCell ⟨gb1601, 0, none⟩ (.int .i64 t1595)).setCell ⟨gb1601, 1, none⟩ (.slice Ao68 t1596.length co68))) := ⟨hU HB.out⟩
    (try clear HO1579)
    (try clear HO1587)
    (try clear HO1598)
    (try clear BK1574)
    (try clear BK1590)
    (try clear BK1601)
    (try clear HB)
    generalize ((w66.setCell ⟨gb1601, 0, none⟩ (.int .i64 t1595)).setCell ⟨gb1601, 1, none⟩ (.slice Ao68 t1596.length co68)) = w70 at n0_ n1_ n2_ n3_ n4_ n5_ n6_ ⊢
    have HO1579 := n0_
    have HO1587 := n1_
    have HO1598 := n2_
    have BK1574 := n3_
    have BK1590 := n4_
    have BK1601 := n5_
    have HB := n6_
    clear n0_ n1_ n2_ n3_ n4_ n5_ n6_
    have n0_ := Aside0.mk (Kd.R_drew HO1579.out)
    have n1_ := Aside0.mk (Kd.R_drew HO1587.out)
    have n2_ := Aside0.mk (Kd.R_drew HO1598.out)
    have n3_ := Aside0.mk (blk_drew BK1574.out)
    have n4_ := Aside0.mk (blk_drew BK1590.out)
    have n5_ := Aside0.mk (blk_drew BK1601.out)
    have n6_ := Aside0.mk (below_drew1 HB.out)
    clear HO1579
    clear HO1587
    clear HO1598
    clear BK1574
    clear BK1590
    clear BK1601
    clear HB
    have HO1579 := n0_
    have HO1587 := n1_
    have HO1598 := n2_
    have BK1574 := n3_
    have BK1590 := n4_
    have BK1601 := n5_
    have HB := n6_
    clear n0_ n1_ n2_ n3_ n4_ n5_ n6_
    have q72 : ((t1596.length : Int) : Int) ≤ ((t1585.length : Int) : Int) := of_decide_eq_true (by first | (with_reducible assumption) | assumption)
    obtain ⟨i072, hi072, _, hsz72, _⟩ := info_parts info30
    have hroom72 : t1585.length ≤ co60 := (Kd.R_reads' HO1587.out).2.1
    have hC72 : Kd.C k30 _ Ao60 t1585.length t1585 := (Kd.R_reads' HO1587.out).2.2
    have hcut72 := cut_to (P := Try.prog) 22 30 .i64 Try.underlying22 hi072 Ao60 t1585.length co60 (t1596.length : Int) (of_decide_eq_true (by first | (with_reducible assumption) | assumption)) q72 hroom72
    have hr72 := Kd.C_take (m := ((t1596.length : Int) : Int).toNat) hC72 (by omega)
    have hy72 : y1602.length = ((t1596.length : Int) : Int).toNat := (by rw [Ny1602.out, List.length_take]; omega)
    rw [← Ny1602.out] at hr72
    rw [← hy72] at hcut72
    have HR1605 := Aside0.mk hr72
    have HC1605 := Aside0.mk (show y1602.length ≤ co60 from by omega)
    clear hr72 hC72 hroom72 hi072 hsz72
    have KY72 := Aside0.mk hy72
    clear hy72
    have KL72 := Aside0.mk (show ((t1596.length : Int) : Int).toNat ≤ t1585.length from by omega)
    replace q72 := eq_true q72
    refine start_ (n := 60) (S := fun w' => w'.cell? ⟨gb1590, 0, none⟩ = some (.int .i64 t1584) ∧ w'.cell? ⟨gb1590, 1, none⟩ = some (.slice Ao60 t1585.length co60) ∧ w'.cell? ⟨gb1601, 0, none⟩ = some (.int .i64 t1595) ∧ w'.cell? ⟨gb1601, 1, none⟩ = some (.slice Ao68 t1596.length co68) ∧ w'.cell? ⟨gb1574, 0, none⟩ = some (.int .i64 a0_0) ∧ w'.cell? ⟨gb1574, 1, none⟩ = some (.slice A0_1 l0_1.length c0_1)) (ds := []) #[false, false, false, false, false, false, false, false, false, false, false, false, false, false, false, false, false, false, false, false, false, false, false, false, false, false, false, false, false, false, false, false, false, false, false, false, false, false, false, false, false, false, false, false, false, false, false, false, false, false, false, false, false, false, false, false, false, false, false, false] (by kernel_rfl) rfl rfl ⟨(blk_cell BK1590.out 0).trans rfl, (blk_cell BK1590.out 1).trans rfl, (blk_cell BK1601.out 0).trans rfl, (blk_cell BK1601.out 1).trans rfl, (blk_cell BK1574.out 0).trans rfl, (blk_cell BK1574.out 1).trans rfl⟩ (fun hHeld => ?_); refine with_tabW dancestudiolaw58_JournalSpoilt.tab12 dancestudiolaw58_JournalSpoilt.bits12 (fun HT_ HW_ => ?_)
    generalize w70.drew = w71 at HO1579 HO1587 HO1598 BK1574 BK1590 BK1601 HB HR1605 hHeld ⊢
    refine puA 0 74 (bs 60 1) ?_
    refine puA 1 75 (bs 60 3) ?_
    refine puA 2 76 (bs 60 7) ?_
    refine puA 3 77 (bs 60 15) ?_
    refine puA 4 78 (bs 60 31) ?_
    refine puA 5 79 (bs 60 63) ?_
    refine puA 6 80 (bs 60 127) ?_
    refine puA 7 81 (bs 60 255) ?_
    refine puA 8 82 (bs 60 511) ?_
    refine puA 9 83 (bs 60 1023) ?_
    refine puA 10 84 (bs 60 2047) ?_
    refine puA 11 85 (bs 60 4095) ?_
    refine puA 12 86 (bs 60 8191) ?_
    refine puA 13 87 (bs 60 16383) ?_
    refine puA 14 88 (bs 60 32767) ?_
    refine puA 15 89 (bs 60 65535) ?_
    refine puA 16 90 (bs 60 131071) ?_
    refine puA 17 91 (bs 60 262143) ?_
    refine puA 20 94 (bs 60 1310719) ?_
    refine tkA 18 92 (bs 60 1572863) hHeld ?_
    refine puA 19 93 (bs 60 2097151) ?_
    refine tkA 21 95 (bs 60 4194303) hHeld ?_
    refine puA 22 96 (bs 60 8388607) ?_
    refine puA 23 97 (bs 60 16777215) ?_
    refine puA 24 98 (bs 60 33554431) ?_
    refine puA 25 99 (bs 60 67108863) ?_
    refine puA 26 100 (bs 60 134217727) ?_
    refine puA 28 102 (bs 60 402653183) ?_
    refine puA 32 106 (bs 60 4697620479) ?_
    refine tkA 27 101 (bs 60 4831838207) hHeld ?_
    refine tkA 29 103 (bs 60 5368709119) hHeld ?_
    refine puA 30 104 (bs 60 6442450943) ?_
    refine puA 31 105 (bs 60 8589934591) ?_
    refine tkA 33 107 (bs 60 17179869183) hHeld ?_
    refine one_ (i := 34) (N := some 108) (bs 60 34359738367) rfl rfl (one_of HT_.out (by kernel_rfl)) (by decide) (fun K hK => ?_)
    refine goes_ Try.func48 (by kernel_rfl) rfl #[.slice Ao60 y1602.length co60, .slice Ao68 t1596.length co68] (by rfl) rfl rfl (by (try simp only [List.map_toArray, List.map_cons, List.map_nil]); first | done | rfl | (simp only [List.length_drop, List.length_take]; rfl)) ?_
    with_reducible refine (dancestudioref58_Edits.calls k _ _ y1602 _ _ t1596 true _ ?side1 ?side2 ?side3 ?side4 A39.out).mono ?_
    (case side1 => repeat (first | exact (by repeat (first | (with_reducible exact HR1605.out) | (with_reducible refine Kd.C_alloc ?_ _) | (with_reducible refine Kd.C_drewN ?_ _) | (with_reducible refine Kd.C_drew ?_) | exact HR1605.out)) | (with_reducible refine Kd.C_alloc ?_ _) | (with_reducible refine Kd.C_drewN ?_ _) | (with_reducible refine Kd.C_drew ?_)))
    (case side2 => exact HC1605.out)
    (case side3 => repeat (first | exact (Kd.R_reads' HO1598.out).2.2 | (with_reducible refine Kd.C_alloc ?_ _) | (with_reducible refine Kd.C_drewN ?_ _) | (with_reducible refine Kd.C_drew ?_)))
    (case side4 => exact (Kd.R_reads' HO1598.out).2.1)
    rintro e w' ⟨rfl, ⟨nd, rfl⟩⟩
    refine ⟨_, rfl, ?_⟩
    have q73 : ((t1596.length : Int) : Int) ≤ ((l0_1.length : Int) : Int) := of_decide_eq_true (by first | (with_reducible assumption) | assumption)
    obtain ⟨i073, hi073, _, hsz73, _⟩ := info_parts info30
    have hroom73 : l0_1.length ≤ c0_1 := HC0_1.out
    have hC73 : Kd.C k30 _ A0_1 l0_1.length l0_1 := HR0_1.out
    have hcut73 := cut_to (P := Try.prog) 22 30 .i64 Try.underlying22 hi073 A0_1 l0_1.length c0_1 (t1596.length : Int) (of_decide_eq_true (by first | (with_reducible assumption) | assumption)) q73 hroom73
    have hr73 := Kd.C_take (m := ((t1596.length : Int) : Int).toNat) hC73 (by omega)
    have hy73 : y1607.length = ((t1596.length : Int) : Int).toNat := (by rw [Ny1607.out, List.length_take]; omega)
    rw [← Ny1607.out] at hr73
    rw [← hy73] at hcut73
    have HR1610 := Aside0.mk hr73
    have HC1610 := Aside0.mk (show y1607.length ≤ c0_1 from by omega)
    clear hr73 hC73 hroom73 hi073 hsz73
    have KY73 := Aside0.mk hy73
    clear hy73
    replace q73 := eq_true q73
    refine hK.out _ _ ⟨(blk_cell BK1590.out 0).trans rfl, (blk_cell BK1590.out 1).trans rfl, (blk_cell BK1601.out 0).trans rfl, (blk_cell BK1601.out 1).trans rfl, (blk_cell BK1574.out 0).trans rfl, (blk_cell BK1574.out 1).trans rfl⟩ (fun hHeld => ?_)
    clear hK K
    refine nmA 108 ?_
    refine puA 35 109 (bs 60 68719476735) ?_
    refine puA 36 110 (bs 60 137438953471) ?_
    refine puA 37 111 (bs 60 274877906943) ?_
    refine puA 40 114 (bs 60 1374389534719) ?_
    refine tkA 38 112 (bs 60 1649267441663) hHeld ?_
    refine puA 39 113 (bs 60 2199023255551) ?_
    refine tkA 41 115 (bs 60 4398046511103) hHeld ?_
    refine puA 42 116 (bs 60 8796093022207) ?_
    refine puA 43 117 (bs 60 17592186044415) ?_
    refine puA 44 118 (bs 60 35184372088831) ?_
    refine puA 45 119 (bs 60 70368744177663) ?_
    refine puA 46 120 (bs 60 140737488355327) ?_
    refine puA 48 122 (bs 60 422212465065983) ?_
    refine puA 50 124 (bs 60 1548112371908607) ?_
    refine tkA 47 121 (bs 60 1688849860263935) hHeld ?_
    refine tkA 49 123 (bs 60 2251799813685247) hHeld ?_
    refine tkA 51 125 (bs 60 4503599627370495) hHeld ?_
    refine puA 52 126 (bs 60 9007199254740991) ?_
    refine puA 53 127 (bs 60 18014398509481983) ?_
    refine one_ (i := 54) (N := some 128) (bs 60 36028797018963967) rfl rfl (one_of HT_.out (by kernel_rfl)) (by decide) (fun K hK => ?_)
    refine goes_ Try.func48 (by kernel_rfl) rfl #[.slice Ao68 t1596.length co68, .slice A0_1 y1607.length c0_1] (by rfl) rfl rfl (by (try simp only [List.map_toArray, List.map_cons, List.map_nil]); first | done | rfl | (simp only [List.length_drop, List.length_take]; rfl)) ?_
    with_reducible refine (dancestudioref58_Edits.calls k _ _ t1596 _ _ y1607 true _ ?side1 ?side2 ?side3 ?side4 A44.out).mono ?_
    (case side1 => repeat (first | exact (Kd.R_reads' HO1598.out).2.2 | (with_reducible refine Kd.C_alloc ?_ _) | (with_reducible refine Kd.C_drewN ?_ _) | (with_reducible refine Kd.C_drew ?_)))
    (case side2 => exact (Kd.R_reads' HO1598.out).2.1)
    (case side3 => repeat (first | exact (Kd.C_below HR1610.out (hU HB.out)) | (with_reducible refine Kd.C_alloc ?_ _) | (with_reducible refine Kd.C_drewN ?_ _) | (with_reducible refine Kd.C_drew ?_)))
    (case side4 => exact HC1610.out)
    rintro e w' ⟨rfl, ⟨nd, rfl⟩⟩
    refine ⟨_, rfl, ?_⟩
    refine hK.out _ _ ⟨(blk_cell BK1590.out 0).trans rfl, (blk_cell BK1590.out 1).trans rfl, (blk_cell BK1601.out 0).trans rfl, (blk_cell BK1601.out 1).trans rfl, (blk_cell BK1574.out 0).trans rfl, (blk_cell BK1574.out 1).trans rfl⟩ (fun hHeld => ?_)
    clear hK K
    refine nmA 128 ?_
    refine puA 55 129 (bs 60 72057594037927935) ?_
    refine puA 56 130 (bs 60 144115188075855871) ?_
    refine one_ (i := 57) (N := some 131) (bs 60 288230376151711743) rfl rfl (one_of HT_.out (by kernel_rfl)) (by decide) (fun K hK => ?_)
    refine goes_ Try.func37 (by kernel_rfl) rfl #[] (by rfl) rfl rfl (by (try simp only [List.map_toArray, List.map_cons, List.map_nil]); first | done | rfl | (simp only [List.length_drop, List.length_take]; rfl)) ?_
    with_reducible refine (dancestudiolaw58_awake.calls k  t1612 _ A46.out).mono ?_
    rintro e w74 ⟨rfl, hb⟩
    refine ⟨_, rfl, ?_⟩
    replace HO1579 := Aside0.mk (Kd.R_below (Kd.rU HO1579.out) hb)
    replace HO1587 := Aside0.mk (Kd.R_below (Kd.rU HO1587.out) hb)
    replace HO1598 := Aside0.mk (Kd.R_below (Kd.rU HO1598.out) hb)
    replace BK1574 := Aside0.mk (blk_below (bU BK1574.out) hb)
    replace BK1590 := Aside0.mk (blk_below (bU BK1590.out) hb)
    replace BK1601 := Aside0.mk (blk_below (bU BK1601.out) hb)
    replace HR1605 := Aside0.mk (Kd.C_below (by repeat (first | (with_reducible exact HR1605.out) | (with_reducible refine Kd.C_alloc ?_ _) | (with_reducible refine Kd.C_drewN ?_ _) | (with_reducible refine Kd.C_drew ?_) | exact HR1605.out)) hb)
    replace HB := Aside0.mk (below_step (hU HB.out) hb)
    (try clear hb)
    (try clear hb2)
    (try clear hk)
    (try clear hi)
    refine hK.out _ _ ⟨(blk_cell BK1590.out 0).trans rfl, (blk_cell BK1590.out 1).trans rfl, (blk_cell BK1601.out 0).trans rfl, (blk_cell BK1601.out 1).trans rfl, (blk_cell BK1574.out 0).trans rfl, (blk_cell BK1574.out 1).trans rfl⟩ (fun hHeld => ?_)
    clear hK K
    refine nmA 131 ?_
    refine puA 58 132 (bs 60 576460752303423487) ?_
    refine puA 59 6 (bs 60 1152921504606846975) ?_
    refine done_ (done_of HT_.out (by kernel_rfl)) ?_
    try go_wp2
    go_ret
    exact ⟨by first | rfl | (simp [errW_none, errW_some] <;> rfl) | (simp only [← hji24]; first | rfl | (simp [errW_none, errW_some] <;> rfl)) | (simp [*, errW_none, errW_some] <;> rfl), hU HB.out⟩
  ·rw [if_neg c10] at H
   have c10b0 : (t1576 == 0) = false := beq_eq_false_iff_ne.mpr c10
   have c10b1 : (t1576 != 0) = true := bne_iff_ne.mpr c10
   replace H := Option.bind_eq_some_iff.mp H
   obtain ⟨t1613, A750, H⟩ := H
   replace H : (some t1613) = some r := H
   have A75 := Aside0.mk A750
   clear A750
   obtain rfl := Option.some.inj H
   go_enter Try.func16, Try.ntmps16
   go_wp2_with (first | ((with_reducible refine gate_dst (N := 3) rfl ?_); (try (refine gate_guard (by rfl) ?_; dsimp only)); refine box_event ?hg (N := 3) ?hd (cs := #[.int .i64 a0_0, .slice A0_1 l0_1.length c0_1]) (t := 24) ?hr ?_; (case hd => rfl); (case hg => rfl); (case hr => first | (go_simp; done) | (go_simp; rfl)); intro gb1574 hg w76 hbox hb; have n0_ := Aside0.mk (below_step (hU HB.out) hb); have n1_ := Aside0.mk (hbox); have n2_ := Aside0.mk ((by rw [hg]; exact (below_size (hU HB.out)) : w.heap.size ≤ gb1574)); have n3_ := Aside0.mk ((by rw [hg]; exact (below_size (hU HB.out)) : w.heap.size ≤ gb1574)); clear HB; have HB := n0_; have BK1574 := n1_; have GW1574 := n2_; have GE1574 := n3_; clear n0_ n1_ n2_ n3_; clear hb hbox hg; have hcz77_0 := blk_cell BK1574.out; have hfz77_0 := blk_frozen BK1574.out) | (go_at_call 29; (with_reducible refine (replica_Check.calls a0_0 _ _ l0_1 t1576 _ ?side1 ?side2 A9.out).mono ?_); (case side1 => repeat (first | exact (Kd.C_below HR0_1.out HB.out) | (with_reducible refine Kd.C_alloc ?_ _) | (with_reducible refine Kd.C_drewN ?_ _) | (with_reducible refine Kd.C_drew ?_))); (case side2 => exact HC0_1.out); rintro e w78 ⟨rfl, hb⟩; replace BK1574 := Aside0.mk (blk_below (bU BK1574.out) hb); replace HB := Aside0.mk (below_step (hU HB.out) hb); (try clear hb); (try clear hb2); (try clear hk); (try clear hi)) | ((with_reducible refine gate_callee (f := 37) rfl ?_); refine goesL_ (some 24) rfl rfl Try.func37 (by kernel_rfl) rfl #[] rfl (by (try simp only [List.map_toArray, List.map_cons, List.map_nil]); first | done | rfl | (simp only [List.length_drop, List.length_take]; rfl)) ?_; (with_reducible refine (dancestudiolaw58_awake.calls k  t1613 _ A75.out).mono ?_); rintro e w79 ⟨rfl, hb⟩; refine ⟨_, rfl, ?_⟩; replace BK1574 := Aside0.mk (blk_below (bU BK1574.out) hb); replace HB := Aside0.mk (below_step (hU HB.out) hb); (try clear hb); (try clear hb2); (try clear hk); (try clear hi)))
   go_ret
   exact ⟨by first | rfl | (simp [errW_none, errW_some] <;> rfl) | (simp [*, errW_none, errW_some] <;> rfl), hU HB.out⟩
end Go.Proofs.Yteopkkoblbmggaa.P
end

/- Texts of this claim in one: VP80, VOpen, VAwakeJ; no condition. -/
import Derived.Test.YteopkkoblbmggaaUAD
import Derived.Test.YteopkkoblbmggaaUAH
import Derived.Test.YteopkkoblbmggaaUAQ
import Derived.Test.YteopkkoblbmggaaUAY
import Derived.Test.YteopkkoblbmggaaUAZ
import Derived.Test.YteopkkoblbmggaaUAK
import Derived.Test.YteopkkoblbmggaaUAC
import Derived.OpenShut
import Derived.SizedLaws
import Derived.ChangeArms
section
namespace Go.Proofs.Yteopkkoblbmggaa.P
open Go.RowKit Go.Proofs.YteopkkoblbmggaaW.PrintWords Go.Proofs.YteopkkoblbmggaaW.PrintLast Go.Proofs.YteopkkoblbmggaaW.PrintMore
attribute [local go_sem] max2_int min2_int max_two min_two max_three min_three max_four min_four
set_option linter.unusedVariables false
set_option linter.unusedSimpArgs false
/-! ### dancestudiolaw58_JournalWrites: function 13 -/
def dancestudiolaw58_JournalWrites.f (k : Nat) (a0_0 : Int) (l0_1 : List (S30)) : Option (Bool) := if (l0_1.length : Int) > 40 then ((dancestudiolaw58_awake.f k).bind fun t1470 => (some t1470)) else ((journal_Write.f k a0_0 l0_1).bind fun bt1471 => ((dancestudioref58_Write.f k a0_0 l0_1).bind fun bt1475 => ((journal_Compact.f k a0_0 l0_1).bind fun bt1479 => ((dancestudioref58_Compact.f k a0_0 l0_1).bind fun bt1483 => ((dancestudioref58_Bytes.f bt1471.1 bt1475.1).bind fun t1487 => (if t1487 = true then (if bt1471.2 = bt1475.2 then ((dancestudioref58_Bytes.f bt1479.1 bt1483.1).bind fun t1488 => (if t1488 = true then (if bt1479.2 = bt1483.2 then ((dancestudiolaw58_awake.f k).bind fun t1489 => (some t1489)) else (none)) else (none))) else (none)) else (none)))))))
theorem dancestudiolaw58_JournalWrites.mono : ∀ a0 a1 k, LeO (dancestudiolaw58_JournalWrites.f k a0 a1) (dancestudiolaw58_JournalWrites.f (k + 1) a0 a1) := by
 intro a0 a1 k
 unfold dancestudiolaw58_JournalWrites.f
 repeat' first
   | (with_reducible exact dancestudiolaw58_awake.mono _)
   | (with_reducible exact dancestudioref58_Compact.mono _ _ _)
   | (with_reducible exact dancestudioref58_Write.mono _ _ _)
   | (with_reducible exact journal_Compact.mono _ _ _)
   | (with_reducible exact journal_Write.mono _ _ _)
   | (with_reducible exact LeO.refl _)
   | (with_reducible exact LeO.none _)
   | (with_reducible refine LeO.ite ?_ ?_)
   | (with_reducible refine LeO.bind ?_ (fun _ => ?_))
   | exact dancestudiolaw58_awake.mono _
   | exact dancestudioref58_Compact.mono _ _ _
   | exact dancestudioref58_Write.mono _ _ _
   | exact journal_Compact.mono _ _ _
   | exact journal_Write.mono _ _ _
   | exact LeO.none _
   | refine LeO.ite ?_ ?_
   | refine LeO.bind ?_ (fun _ => ?_)
set_option maxHeartbeats 8000000 in
set_option maxRecDepth 100000 in
theorem dancestudiolaw58_JournalWrites.calls (k : Nat) (a0_0 : Int) (A0_1 : Option Addr) (c0_1 : Nat) (l0_1 : List (S30)) (r : Bool) (w : World) (hr0_1 : Kd.C k30 w A0_1 l0_1.length l0_1) (hc0_1 : l0_1.length ≤ c0_1) (h : dancestudiolaw58_JournalWrites.f k a0_0 l0_1 = some r) :
  Calls Try.prog 13 #[.agg #[.int .i64 a0_0, .slice A0_1 l0_1.length c0_1]] w fun e w' => e = .returned (.bool r) ∧ Below w.heap.size w w' := by
 have hu24 := Try.underlying24
 have HR0_1 := Aside0.mk hr0_1
 have HC0_1 := Aside0.mk hc0_1
 clear hr0_1 hc0_1
 have HB := Aside0.mk (Below.refl w.heap.size w)
 have H : (if (l0_1.length : Int) > 40 then ((dancestudiolaw58_awake.f k).bind fun t1470 => (some t1470)) else ((journal_Write.f k a0_0 l0_1).bind fun bt1471 => ((dancestudioref58_Write.f k a0_0 l0_1).bind fun bt1475 => ((journal_Compact.f k a0_0 l0_1).bind fun bt1479 => ((dancestudioref58_Compact.f k a0_0 l0_1).bind fun bt1483 => ((dancestudioref58_Bytes.f bt1471.1 bt1475.1).bind fun t1487 => (if t1487 = true then (if bt1471.2 = bt1475.2 then ((dancestudioref58_Bytes.f bt1479.1 bt1483.1).bind fun t1488 => (if t1488 = true then (if bt1479.2 = bt1483.2 then ((dancestudiolaw58_awake.f k).bind fun t1489 => (some t1489)) else (none)) else (none))) else (none)) else (none)))))))) = some r := h
 clear h
 by_cases c2 : (l0_1.length : Int) > 40
 ·rw [if_pos c2] at H
  have c2b0 : decide (40 < (l0_1.length : Int)) = true := decide_eq_true c2
  have c2b1 : decide (40 < l0_1.length) = true := decide_eq_true (by omega)
  clear c2
  replace H := Option.bind_eq_some_iff.mp H
  obtain ⟨t1470, A30, H⟩ := H
  replace H : (some t1470) = some r := H
  have A3 := Aside0.mk A30
  clear A30
  obtain rfl := Option.some.inj H
  go_enter Try.func13, Try.ntmps13
  go_wp2_with (first | ((with_reducible refine gate_dst (N := 1) rfl ?_); refine box_event ?hg (N := 1) ?hd (cs := #[.int .i64 a0_0, .slice A0_1 l0_1.length c0_1]) (t := 24) ?hr ?_; (case hd => rfl); (case hg => rfl); (case hr => first | (go_simp; done) | (go_simp; rfl)); intro gb1469 hg w4 hbox hb; have n0_ := Aside0.mk (below_step (hU HB.out) hb); have n1_ := Aside0.mk (hbox); have n2_ := Aside0.mk ((by rw [hg]; exact (below_size (hU HB.out)) : w.heap.size ≤ gb1469)); have n3_ := Aside0.mk ((by rw [hg]; exact (below_size (hU HB.out)) : w.heap.size ≤ gb1469)); clear HB; have HB := n0_; have BK1469 := n1_; have GW1469 := n2_; have GE1469 := n3_; clear n0_ n1_ n2_ n3_; clear hb hbox hg; have hcz5_0 := blk_cell BK1469.out; have hfz5_0 := blk_frozen BK1469.out) | ((with_reducible refine gate_callee (f := 37) rfl ?_); refine goesL_ (some 15) rfl rfl Try.func37 (by kernel_rfl) rfl #[] rfl (by (try simp only [List.map_toArray, List.map_cons, List.map_nil]); first | done | rfl | (simp only [List.length_drop, List.length_take]; rfl)) ?_; (with_reducible refine (dancestudiolaw58_awake.calls k  t1470 _ A3.out).mono ?_); rintro e w6 ⟨rfl, hb⟩; refine ⟨_, rfl, ?_⟩; replace BK1469 := Aside0.mk (blk_below (bU BK1469.out) hb); replace HB := Aside0.mk (below_step (hU HB.out) hb); (try clear hb); (try clear hb2); (try clear hk); (try clear hi)))
  go_ret
  exact ⟨by first | rfl | (simp [errW_none, errW_some] <;> rfl) | (simp [*, errW_none, errW_some] <;> rfl), hU HB.out⟩
 ·rw [if_neg c2] at H
  have c2b0 : decide (40 < (l0_1.length : Int)) = false := decide_eq_false c2
  have c2b1 : decide (40 < l0_1.length) = false := decide_eq_false (by omega)
  clear c2
  replace H := Option.bind_eq_some_iff.mp H
  obtain ⟨⟨t1471, t1474⟩, A70, H⟩ := H
  try dsimp only at H
  have A7 := Aside0.mk A70
  clear A70
  replace H := Option.bind_eq_some_iff.mp H
  obtain ⟨⟨t1475, t1478⟩, A80, H⟩ := H
  try dsimp only at H
  have A8 := Aside0.mk A80
  clear A80
  replace H := Option.bind_eq_some_iff.mp H
  obtain ⟨⟨t1479, t1482⟩, A90, H⟩ := H
  try dsimp only at H
  have A9 := Aside0.mk A90
  clear A90
  replace H := Option.bind_eq_some_iff.mp H
  obtain ⟨⟨t1483, t1486⟩, A100, H⟩ := H
  try dsimp only at H
  have A10 := Aside0.mk A100
  clear A100
  replace H := Option.bind_eq_some_iff.mp H
  obtain ⟨t1487, A110, H⟩ := H
  try dsimp only at H
  have A11 := Aside0.mk A110
  clear A110
  by_cases c12 : t1487 = true
  rotate_left
  ·replace c12 := Bool.eq_false_iff.mpr c12
   subst c12
   have H1 : (none) = some r := by rw [if_neg (show ¬ (false = true) by decide)] at H; exact H
   clear H
   have H := H1
   clear H1
   exact absurd H (by simp)

  subst c12
  rw [if_pos rfl] at H
  by_cases c13 : t1474 = t1478
  rotate_left
  ·rw [if_neg c13] at H
   exact absurd H (by simp)
  rw [if_pos c13] at H
  have c13b0 : (t1474 == t1478) = true := beq_iff_eq.mpr c13
  have c13b1 : (t1474 != t1478) = false := bne_eq_false_iff_eq.mpr c13
  clear c13
  replace H := Option.bind_eq_some_iff.mp H
  obtain ⟨t1488, A140, H⟩ := H
  replace H : (if t1488 = true then (if t1482 = t1486 then ((dancestudiolaw58_awake.f k).bind fun t1489 => (some t1489)) else (none)) else (none)) = some r := H
  have A14 := Aside0.mk A140
  clear A140
  by_cases c15 : t1488 = true
  rotate_left
  ·replace c15 := Bool.eq_false_iff.mpr c15
   subst c15
   have H1 : (none) = some r := by rw [if_neg (show ¬ (false = true) by decide)] at H; exact H
   clear H
   have H := H1
   clear H1
   exact absurd H (by simp)
  subst c15
  have H1 : (if t1482 = t1486 then ((dancestudiolaw58_awake.f k).bind fun t1489 => (some t1489)) else (none)) = some r := by rw [if_pos rfl] at H; exact H
  clear H
  have H := H1
  clear H1
  by_cases c16 : t1482 = t1486
  rotate_left
  ·rw [if_neg c16] at H
   exact absurd H (by simp)
  rw [if_pos c16] at H
  have c16b0 : (t1482 == t1486) = true := beq_iff_eq.mpr c16
  have c16b1 : (t1482 != t1486) = false := bne_eq_false_iff_eq.mpr c16
  clear c16
  replace H := Option.bind_eq_some_iff.mp H
  obtain ⟨t1489, A170, H⟩ := H
  replace H : (some t1489) = some r := H
  have A17 := Aside0.mk A170
  clear A170
  obtain rfl := Option.some.inj H
  go_enter Try.func13, Try.ntmps13
  go_wp2_with (first | ((with_reducible refine gate_dst (N := 1) rfl ?_); refine box_event ?hg (N := 1) ?hd (cs := #[.int .i64 a0_0, .slice A0_1 l0_1.length c0_1]) (t := 24) ?hr ?_; (case hd => rfl); (case hg => rfl); (case hr => first | (go_simp; done) | (go_simp; rfl)); intro gb1469 hg w18 hbox hb; have n0_ := Aside0.mk (below_step (hU HB.out) hb); have n1_ := Aside0.mk (hbox); have n2_ := Aside0.mk ((by rw [hg]; exact (below_size (hU HB.out)) : w.heap.size ≤ gb1469)); have n3_ := Aside0.mk ((by rw [hg]; exact (below_size (hU HB.out)) : w.heap.size ≤ gb1469)); clear HB; have HB := n0_; have BK1469 := n1_; have GW1469 := n2_; have GE1469 := n3_; clear n0_ n1_ n2_ n3_; clear hb hbox hg; have hcz19_0 := blk_cell BK1469.out; have hfz19_0 := blk_frozen BK1469.out) | ((with_reducible refine gate_callee (f := 44) rfl ?_); refine goesL_ (some 18) rfl rfl Try.func44 (by kernel_rfl) rfl #[.agg #[.int .i64 a0_0, .slice A0_1 l0_1.length c0_1]] rfl (by (try simp only [List.map_toArray, List.map_cons, List.map_nil]); first | done | rfl | (simp only [List.length_drop, List.length_take]; rfl)) ?_; (with_reducible refine (journal_Write.calls k a0_0 _ _ l0_1 t1471 t1474 _ ?side1 ?side2 A7.out).mono ?_); (case side1 => repeat (first | exact (Kd.C_below HR0_1.out HB.out) | (with_reducible refine Kd.C_alloc ?_ _) | (with_reducible refine Kd.C_drewN ?_ _) | (with_reducible refine Kd.C_drew ?_))); (case side2 => exact HC0_1.out); rintro e w20 ⟨v1472, rfl, ho0, hb⟩; refine ⟨_, rfl, ?_⟩; replace HO1473 := Aside0.mk (Kd.R_lower ho0 (below_size (hU HB.out))); replace BK1469 := Aside0.mk (blk_below (bU BK1469.out) hb); replace HB := Aside0.mk (below_step (hU HB.out) hb); (try clear hb); (try clear hb2); (try clear hk); (try clear hi); (try clear ho0); have hcz21_0 := blk_cell BK1469.out; have hfz21_0 := blk_frozen BK1469.out) | ((with_reducible refine gate_callee (f := 45) rfl ?_); refine goesL_ (some 23) rfl rfl Try.func45 (by kernel_rfl) rfl #[.agg #[.int .i64 a0_0, .slice A0_1 l0_1.length c0_1]] rfl (by (try simp only [List.map_toArray, List.map_cons, List.map_nil]); first | done | rfl | (simp only [List.length_drop, List.length_take]; rfl)) ?_; (with_reducible refine (dancestudioref58_Write.calls k a0_0 _ _ l0_1 t1475 t1478 _ ?side1 ?side2 A8.out).mono ?_); (case side1 => repeat (first | exact (Kd.C_below HR0_1.out HB.out) | (with_reducible refine Kd.C_alloc ?_ _) | (with_reducible refine Kd.C_drewN ?_ _) | (with_reducible refine Kd.C_drew ?_))); (case side2 => exact HC0_1.out); rintro e w22 ⟨v1476, rfl, ho0, hb⟩; refine ⟨_, rfl, ?_⟩; replace HO1477 := Aside0.mk (Kd.R_lower (Kd.R_new' ho0 (Kd.R_lt (Kd.rU HO1473.out))) (below_size (hU HB.out))); replace HO1473 := Aside0.mk (Kd.R_elder' (Kd.rU HO1473.out) (Kd.R_base ho0) hb); replace BK1469 := Aside0.mk (blk_below (bU BK1469.out) hb); replace HB := Aside0.mk (below_step (hU HB.out) hb); (try clear hb); (try clear hb2); (try clear hk); (try clear hi); (try clear ho0); have hcz23_0 := blk_cell BK1469.out; have hfz23_0 := blk_frozen BK1469.out) | ((with_reducible refine gate_callee (f := 46) rfl ?_); refine goesL_ (some 28) rfl rfl Try.func46 (by kernel_rfl) rfl #[.agg #[.int .i64 a0_0, .slice A0_1 l0_1.length c0_1]] rfl (by (try simp only [List.map_toArray, List.map_cons, List.map_nil]); first | done | rfl | (simp only [List.length_drop, List.length_take]; rfl)) ?_; (with_reducible refine (journal_Compact.calls k a0_0 _ _ l0_1 t1479 t1482 _ ?side1 ?side2 A9.out).mono ?_); (case side1 => repeat (first | exact (Kd.C_below HR0_1.out HB.out) | (with_reducible refine Kd.C_alloc ?_ _) | (with_reducible refine Kd.C_drewN ?_ _) | (with_reducible refine Kd.C_drew ?_))); (case side2 => exact HC0_1.out); rintro e w24 ⟨v1480, rfl, ho0, hb⟩; refine ⟨_, rfl, ?_⟩; replace HO1481 := Aside0.mk (Kd.R_lower (Kd.R_new' (Kd.R_new' ho0 (Kd.R_lt (Kd.rU HO1473.out))) (Kd.R_lt (Kd.rU HO1477.out))) (below_size (hU HB.out))); replace HO1473 := Aside0.mk (Kd.R_elder' (Kd.rU HO1473.out) (Kd.R_base ho0) hb); replace HO1477 := Aside0.mk (Kd.R_elder' (Kd.rU HO1477.out) (Kd.R_base ho0) hb); replace BK1469 := Aside0.mk (blk_below (bU BK1469.out) hb); replace HB := Aside0.mk (below_step (hU HB.out) hb); (try clear hb); (try clear hb2); (try clear hk); (try clear hi); (try clear ho0); have hcz25_0 := blk_cell BK1469.out; have hfz25_0 := blk_frozen BK1469.out) | ((with_reducible refine gate_callee (f := 47) rfl ?_); refine goesL_ (some 33) rfl rfl Try.func47 (by kernel_rfl) rfl #[.agg #[.int .i64 a0_0, .slice A0_1 l0_1.length c0_1]] rfl (by (try simp only [List.map_toArray, List.map_cons, List.map_nil]); first | done | rfl | (simp only [List.length_drop, List.length_take]; rfl)) ?_; (with_reducible refine (dancestudioref58_Compact.calls k a0_0 _ _ l0_1 t1483 t1486 _ ?side1 ?side2 A10.out).mono ?_); (case side1 => repeat (first | exact (Kd.C_below HR0_1.out HB.out) | (with_reducible refine Kd.C_alloc ?_ _) | (with_reducible refine Kd.C_drewN ?_ _) | (with_reducible refine Kd.C_drew ?_))); (case side2 => exact HC0_1.out); rintro e w26 ⟨v1484, rfl, ho0, hb⟩; refine ⟨_, rfl, ?_⟩; replace HO1485 := Aside0.mk (Kd.R_lower (Kd.R_new' (Kd.R_new' (Kd.R_new' ho0 (Kd.R_lt (Kd.rU HO1473.out))) (Kd.R_lt (Kd.rU HO1477.out))) (Kd.R_lt (Kd.rU HO1481.out))) (below_size (hU HB.out))); replace HO1473 := Aside0.mk (Kd.R_elder' (Kd.rU HO1473.out) (Kd.R_base ho0) hb); replace HO1477 := Aside0.mk (Kd.R_elder' (Kd.rU HO1477.out) (Kd.R_base ho0) hb); replace HO1481 := Aside0.mk (Kd.R_elder' (Kd.rU HO1481.out) (Kd.R_base ho0) hb); replace BK1469 := Aside0.mk (blk_below (bU BK1469.out) hb); replace HB := Aside0.mk (below_step (hU HB.out) hb); (try clear hb); (try clear hb2); (try clear hk); (try clear hi); (try clear ho0); obtain ⟨Ao27, co27, eo27⟩ := Kd.R_slice HO1473.out; subst eo27; obtain ⟨Ao28, co28, eo28⟩ := Kd.R_slice HO1477.out; subst eo28) | ((with_reducible refine gate_callee (f := 40) rfl ?_); refine goesL_ (some 38) rfl rfl Try.func40 (by kernel_rfl) rfl #[.slice Ao27 t1471.length co27, .slice Ao28 t1475.length co28] rfl (by (try simp only [List.map_toArray, List.map_cons, List.map_nil]); first | done | rfl | (simp only [List.length_drop, List.length_take]; rfl)) ?_; (with_reducible refine (dancestudioref58_Bytes.calls _ _ t1471 _ _ t1475 true _ ?side1 ?side2 ?side3 ?side4 A11.out).mono ?_); (case side1 => repeat (first | exact (Kd.R_reads' HO1473.out).2.2 | (with_reducible refine Kd.C_alloc ?_ _) | (with_reducible refine Kd.C_drewN ?_ _) | (with_reducible refine Kd.C_drew ?_))); (case side2 => exact (Kd.R_reads' HO1473.out).2.1); (case side3 => repeat (first | exact (Kd.R_reads' HO1477.out).2.2 | (with_reducible refine Kd.C_alloc ?_ _) | (with_reducible refine Kd.C_drewN ?_ _) | (with_reducible refine Kd.C_drew ?_))); (case side4 => exact (Kd.R_reads' HO1477.out).2.1); rintro e w' ⟨rfl, ⟨nd, rfl⟩⟩; refine ⟨_, rfl, ?_⟩; obtain ⟨Ao29, co29, eo29⟩ := Kd.R_slice HO1481.out; subst eo29; obtain ⟨Ao30, co30, eo30⟩ := Kd.R_slice HO1485.out; subst eo30) | (go_at_call 40; (with_reducible refine (dancestudioref58_Bytes.calls _ _ t1479 _ _ t1483 true _ ?side1 ?side2 ?side3 ?side4 A14.out).mono ?_); (case side1 => repeat (first | exact (Kd.R_reads' HO1481.out).2.2 | (with_reducible refine Kd.C_alloc ?_ _) | (with_reducible refine Kd.C_drewN ?_ _) | (with_reducible refine Kd.C_drew ?_))); (case side2 => exact (Kd.R_reads' HO1481.out).2.1); (case side3 => repeat (first | exact (Kd.R_reads' HO1485.out).2.2 | (with_reducible refine Kd.C_alloc ?_ _) | (with_reducible refine Kd.C_drewN ?_ _) | (with_reducible refine Kd.C_drew ?_))); (case side4 => exact (Kd.R_reads' HO1485.out).2.1); rintro e w' ⟨rfl, ⟨nd, rfl⟩⟩) | (go_at_call 37; (with_reducible refine (dancestudiolaw58_awake.calls k  t1489 _ A17.out).mono ?_); rintro e w31 ⟨rfl, hb⟩; replace HO1473 := Aside0.mk (Kd.R_below (Kd.rU HO1473.out) hb); replace HO1477 := Aside0.mk (Kd.R_below (Kd.rU HO1477.out) hb); replace HO1481 := Aside0.mk (Kd.R_below (Kd.rU HO1481.out) hb); replace HO1485 := Aside0.mk (Kd.R_below (Kd.rU HO1485.out) hb); replace BK1469 := Aside0.mk (blk_below (bU BK1469.out) hb); replace HB := Aside0.mk (below_step (hU HB.out) hb); (try clear hb); (try clear hb2); (try clear hk); (try clear hi)))
  go_ret
  exact ⟨by first | rfl | (simp [errW_none, errW_some] <;> rfl) | (simp [*, errW_none, errW_some] <;> rfl), hU HB.out⟩
end Go.Proofs.Yteopkkoblbmggaa.P
end
section
set_option linter.unusedVariables false
namespace Go.Proofs.Yteopkkoblbmggaa.Open
open Go.ChangeShapes Go.WideShapes Go.RowKit Go.Proofs.YteopkkoblbmggaaW.PrintWords
/-- Whatever reads as data of the type t is a value of the kind d that is ok. -/
def Opens {α : Type} (P : Program) (t : TypeId) (d : Kd α) (ok : α → Prop) : Prop :=
  P.cellsOf t = d.sz ∧ ∀ (H : Type) (enc : TypeId × Value → H) (w : World) (sp : Nat → Bool) (hd : Bool) (fuel : Nat) (cs : List Value) (x : DataW H × List MemPlace),
    DataW.trod enc P w 0 sp hd fuel t cs = some x → (∀ n ∈ x.1.weights P t, n ≤ 140737488351232) → ∃ a, d.K w a cs ∧ ok a

/-- What an int may be. -/
def okI (n : Int) : Prop := -9223372036854775808 ≤ n ∧ n ≤ 9223372036854775807
theorem opens_i64 {P : Program} {t : TypeId} (ht : P.underlying t = some (.int .i64)) (hc : P.cellsOf t = 1) : Opens P t (Kd.int .i64) okI :=
  ⟨hc, fun H enc w sp hd fuel cs x h _ => by
    obtain ⟨n, rfl, _, hw⟩ := DataW.trod_int ht h
    exact ⟨n, rfl, bounds_i64 hw⟩⟩
theorem opens_bool {P : Program} {t : TypeId} (ht : P.underlying t = some .bool) (hc : P.cellsOf t = 1) : Opens P t Kd.bool (fun _ => True) :=
  ⟨hc, fun H enc w sp hd fuel cs x h _ => by
    obtain ⟨n, rfl, _⟩ := DataW.trod_bool ht h
    exact ⟨n, rfl, trivial⟩⟩
theorem weightsAll_mem {H : Type} {P : Program} {e : TypeId} {n : Nat} : ∀ {ds : List (DataW H)} {d : DataW H}, d ∈ ds → n ∈ d.weights P e → n ∈ DataW.weightsAll P e ds
  | d0 :: ds, d, hd, hn => by
    rw [DataW.weightsAll, List.mem_append]
    rcases List.mem_cons.1 hd with rfl | hd
    · exact .inl hn
    · exact .inr (weightsAll_mem hd hn)
theorem opens_slice {α : Type} {P : Program} {t e : TypeId} {d : Kd α} {ok : α → Prop} (ht : P.underlying t = some (.slice e)) (hc : P.cellsOf t = 1) {B : Nat} (hB : P.bytesOf e = B) (ho : Opens P e d ok) :
    Opens P t (Kd.slice e d) (fun xs => xs.length ≤ maxLen ∧ xs.length * B ≤ 140737488351232 ∧ ∀ a ∈ xs, ok a) := by
  refine ⟨hc, fun H enc w sp hd fuel cs x h hw => ?_⟩
  rcases DataW.trod_slice ht h with ⟨rfl, _⟩ | ⟨a, len, cap, elems, rest, n, _, rfl, rfl, _, hlc, hcm, hel, helem, _, _⟩
  · exact ⟨[], ⟨none, 0, rfl, Nat.le_refl _, Kd.C_nil d w⟩, by simp, by simp, by simp⟩
  · have hwt : ∀ m ∈ (elems.length + rest.length) * P.bytesOf e :: (DataW.weightsAll P e (elems.map (·.1)) ++ DataW.weightsAll P e (rest.map (·.1))), m ≤ 140737488351232 := by
      intro m hm
      refine hw m ?_
      simp only [DataW.weights, ht, List.length_map]
      exact hm
    have key : ∀ i : Fin len, ∃ p : α, ok p ∧ ∃ c : List Value, c.length = d.sz ∧ d.K w p c ∧ ∀ j u, c[j]? = some u → w.cell? (a.add (i.1 * d.sz + j)) = some u := by
      intro i
      have hi := helem i.1 i.2
      have hlt : i.1 < elems.length := by have := i.2; omega
      rw [List.getElem?_eq_getElem hlt] at hi
      obtain ⟨c, hc1, hc2⟩ := Option.bind_eq_some_iff.1 hi
      obtain ⟨_, hl, hcell⟩ := World.cells?_some hc1
      obtain ⟨p, hp, hok⟩ := ho.2 H enc w sp hd n c _ hc2 (fun m hm => hwt m (List.mem_cons_of_mem _ (List.mem_append_left _ (weightsAll_mem (List.mem_map.2 ⟨_, List.getElem_mem hlt, rfl⟩) hm))))
      refine ⟨p, hok, c, by rw [hl, ho.1], hp, fun j u hu => ?_⟩
      have hj : j < P.cellsOf e := by rw [← hl]; exact (List.getElem?_eq_some_iff.1 hu).1
      have hh := hcell j hj
      rw [hu, Addr.add_add, ho.1] at hh
      exact hh
    have hlen : (List.ofFn fun i : Fin len => Classical.choose (key i)).length = len := List.length_ofFn
    have hmx : len ≤ 9223372036854775807 := by unfold maxLen at hcm; omega
    refine ⟨List.ofFn fun i : Fin len => Classical.choose (key i), ⟨some a, cap, by rw [hlen], by rw [hlen]; exact hlc, ?_⟩, by rw [hlen]; unfold maxLen at hcm ⊢; omega, ?_, ?_⟩
    · refine ⟨rfl, by rw [hlen]; exact hmx, fun _ => ⟨a, rfl, fun j p hp => ?_⟩⟩
      rw [List.getElem?_ofFn] at hp
      split at hp
      · rename_i hj
        injection hp with hp
        subst hp
        exact (Classical.choose_spec (key ⟨j, hj⟩)).2
      · cases hp
    · rw [hlen, ← hB]
      have := hwt _ List.mem_cons_self
      exact Nat.le_trans (Nat.mul_le_mul_right _ (by omega)) this
    · intro p hp
      obtain ⟨i, rfl⟩ := List.mem_ofFn.1 hp
      exact (Classical.choose_spec (key i)).1

/-- Some fields in line, from a place on. -/
def OpensF {α : Type} (P : Program) (fs : List Field) (o : Nat) (d : Kd α) (ok : α → Prop) : Prop :=
  ∀ (H : Type) (enc : TypeId × Value → H) (w : World) (sp : Nat → Bool) (hd : Bool) (fuel : Nat) (cs : List Value) (ys : List (DataW H × List MemPlace)),
    ys.length = fs.length → (∀ (i : Nat) (f : Field), fs[i]? = some f → DataW.trod enc P w 0 sp hd fuel f.type ((cs.drop f.offset).take (P.cellsOf f.type)) = ys[i]?) → cs.length = o + d.sz →
    (∀ n ∈ DataW.weightsEach P (fs.map (·.type)) (ys.map (·.1)), n ≤ 140737488351232) → ∃ a, d.K w a (cs.drop o) ∧ ok a
theorem opensF_one {α : Type} {P : Program} {f : Field} {o : Nat} {d : Kd α} {ok : α → Prop} (hf : f.offset = o) (ho : Opens P f.type d ok) : OpensF P [f] o d ok := by
  intro H enc w sp hd fuel cs ys hl hy hcs hw
  match ys, hl with
  | [y], _ =>
    have h := hy 0 f rfl
    have e : (cs.drop f.offset).take (P.cellsOf f.type) = cs.drop o := by rw [hf, ho.1]; exact List.take_of_length_le (by rw [List.length_drop]; omega)
    rw [e] at h
    exact ho.2 H enc w sp hd fuel _ y h (fun n hn => hw n (by simpa [DataW.weightsEach] using hn))
theorem opensF_cons {α β : Type} {P : Program} {f : Field} {fs : List Field} {o : Nat} {d : Kd α} {d' : Kd β} {ok : α → Prop} {ok' : β → Prop} (hf : f.offset = o) (ho : Opens P f.type d ok) (hr : OpensF P fs (o + d.sz) d' ok') :
    OpensF P (f :: fs) o (Kd.pair d d') (fun a => ok a.1 ∧ ok' a.2) := by
  intro H enc w sp hd fuel cs ys hl hy hcs hw
  match ys, hl with
  | y :: ys, hl =>
    have h := hy 0 f rfl
    have hcs' : cs.length = o + (d.sz + d'.sz) := hcs
    rw [hf, ho.1] at h
    obtain ⟨a, ka, oa⟩ := ho.2 H enc w sp hd fuel _ y h (fun n hn => hw n (by simp only [List.map_cons, DataW.weightsEach, List.mem_append]; exact .inl hn))
    obtain ⟨b, kb, ob⟩ := hr H enc w sp hd fuel cs ys (by simpa using hl) (fun i g hg => by simpa using hy (i + 1) g (by simpa using hg)) (by omega) (fun n hn => hw n (by simp only [List.map_cons, DataW.weightsEach, List.mem_append]; exact .inr hn))
    refine ⟨(a, b), ⟨_, _, ?_, ka, kb⟩, oa, ob⟩
    rw [← List.drop_drop, List.take_append_drop]
theorem opens_struct {α β : Type} {P : Program} {t : TypeId} {fs : List Field} {d : Kd α} {ok : α → Prop} (ht : P.underlying t = some (.struct fs.toArray)) (hc : P.cellsOf t = d.sz) (ho : OpensF P fs 0 d ok) (f : β → α) (g : α → β) (hfg : ∀ a, f (g a) = a) :
    Opens P t (Kd.iso d f) (fun b => ok (f b)) := by
  refine ⟨hc, fun H enc w sp hd fuel cs x h hw => ?_⟩
  obtain ⟨xs, n, _, rfl, hl, hxl, hx⟩ := DataW.trod_struct ht h
  obtain ⟨a, ha, hok⟩ := ho H enc w sp hd n cs xs (by simpa using hxl) (fun i f hf => hx i f (by simpa using hf)) (by omega) (fun m hm => hw m (by simp only [DataW.weights, ht]; exact hm))
  refine ⟨g a, ?_, by show ok (f (g a)); rw [hfg]; exact hok⟩
  show d.K w (f (g a)) cs
  rw [hfg]
  exact ha

section
variable {H : Type} {enc : TypeId × Value → H} {P : Program} {W : World} {ts : List TypeId} {ds : List (DataW H)} {j : Nat} {t : TypeId} {v : Value} {dd : DataW H} {p : List MemPlace} {sp : Nat → Bool} {hd : Bool}
/-- An argument that is a struct. -/
theorem open_agg {α : Type} {d : Kd α} {ok : α → Prop} {r : Reach} {b : Nat} {fs : Array Field} (ho : Opens P t d ok) (ht : P.underlying t = some (.struct fs)) (hv : Value.okWide P W r b t v)
    (hsz : (DataW.weightsEach P ts ds).all (· ≤ reachBytes) = true) (htj : ts[j]? = some t) (hdj : ds[j]? = some dd) (h : DataW.Trod enc P W 0 sp hd t v dd p) : ∃ (a : α) (cs : Array Value), v = .agg cs ∧ d.K W a cs.toList ∧ ok a := by
  obtain ⟨cs, rfl, _⟩ := okWide_struct ht hv
  obtain ⟨fuel, hf⟩ := h
  obtain ⟨a, ha, hok⟩ := ho.2 H enc W sp hd fuel _ _ hf (fun n hn => by
    have := List.all_eq_true.1 hsz _ (DataW.weights_mem_each htj hdj n hn)
    exact of_decide_eq_true this)
  exact ⟨a, cs, rfl, ha, hok⟩
end
end Go.Proofs.Yteopkkoblbmggaa.Open
end
section
set_option linter.unusedVariables false
namespace Go.Proofs.Yteopkkoblbmggaa.P
open Go.RowKit Go.Proofs.YteopkkoblbmggaaW.PrintWords Go.Proofs.YteopkkoblbmggaaW.PrintLast Go.Proofs.YteopkkoblbmggaaW.PrintMore
set_option maxRecDepth 100000 in
theorem awake58_k : dancestudiolaw58_awake.f 400 = some true := by decide +kernel
theorem awake58_eq (k : Nat) (hk : 400 ≤ k) : dancestudiolaw58_awake.f k = some true := at_rounds (fun k => dancestudiolaw58_awake.mono k) hk awake58_k
end Go.Proofs.Yteopkkoblbmggaa.P
end

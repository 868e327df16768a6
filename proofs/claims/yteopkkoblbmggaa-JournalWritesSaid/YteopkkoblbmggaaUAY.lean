/- Texts of this claim in one: VP78; no condition. -/
import Derived.Test.YteopkkoblbmggaaUAD
import Derived.Test.YteopkkoblbmggaaUAV
import Derived.Test.YteopkkoblbmggaaUAX
section
namespace Go.Proofs.Yteopkkoblbmggaa.P
open Go.RowKit Go.Proofs.YteopkkoblbmggaaW.PrintWords Go.Proofs.YteopkkoblbmggaaW.PrintLast Go.Proofs.YteopkkoblbmggaaW.PrintMore
attribute [local go_sem] max2_int min2_int max_two min_two max_three min_three max_four min_four
set_option linter.unusedVariables false
set_option linter.unusedSimpArgs false
/-! ### dancestudioref58_Write: function 45 -/
def dancestudioref58_Write.l0 : Nat → List Int → Int → Int → List (S30) → Option (List Int × Int)
 | 0, _, _, _, _ => none
 | k + 1, x5, x6, x1443000, x1443001 => if x6 < (x1443001.length : Int) then (if 0 ≤ x6 then ((dancestudioref58_frame.f k ((rd_T30 x1443001 x6).f0.f0) ((rd_T30 x1443001 x6).f0.f1) ((rd_T30 x1443001 x6).f1) ((rd_T30 x1443001 x6).f2.f0) ((rd_T30 x1443001 x6).f2.f1) ((rd_T30 x1443001 x6).f3) ((rd_T30 x1443001 x6).f4.f0) ((rd_T30 x1443001 x6).f4.f1) ((rd_T30 x1443001 x6).f4.f2) ((rd_T30 x1443001 x6).f4.f3) ((rd_T30 x1443001 x6).f4.f4) ((rd_T30 x1443001 x6).f4.f5) ((rd_T30 x1443001 x6).f4.f6)).bind fun t1445 => (if x5.length + t1445.length < 140737488355328 then (dancestudioref58_Write.l0 k (x5 ++ t1445) (wrap64 (x6 + 1)) x1443000 x1443001) else (none))) else (none)) else (some (x5, 0))
def dancestudioref58_Write.f (k : Nat) (a0_0 : Int) (l0_1 : List (S30)) : Option (List Int × Int) := (dancestudioref57_Check.f k a0_0 l0_1).bind fun t1443 => (if t1443 = 0 then (dancestudioref58_Write.l0 k ([] : List Int) 0 a0_0 l0_1) else (some (([] : List Int), t1443)))
theorem dancestudioref58_Write.mono_l : ∀ k, (∀ y0 y1 y2 y3, LeO (dancestudioref58_Write.l0 k y0 y1 y2 y3) (dancestudioref58_Write.l0 (k + 1) y0 y1 y2 y3))
 | 0 => fun _ _ _ _ r h => by simp [dancestudioref58_Write.l0] at h
 | k + 1 => by
  have ih0 := dancestudioref58_Write.mono_l k
  ·intro y0 y1 y2 y3
   unfold dancestudioref58_Write.l0
   repeat' first
   | (with_reducible exact ih0 _ _ _ _)
   | (with_reducible exact dancestudioref57_Check.mono _ _ _)
   | (with_reducible exact dancestudioref58_frame.mono _ _ _ _ _ _ _ _ _ _ _ _ _ _)
   | (with_reducible exact LeO.refl _)
   | (with_reducible exact LeO.none _)
   | (with_reducible refine LeO.ite ?_ ?_)
   | (with_reducible refine LeO.bind ?_ (fun _ => ?_))
   | exact ih0 _ _ _ _
   | exact dancestudioref57_Check.mono _ _ _
   | exact dancestudioref58_frame.mono _ _ _ _ _ _ _ _ _ _ _ _ _ _
   | exact LeO.none _
   | refine LeO.ite ?_ ?_
   | refine LeO.bind ?_ (fun _ => ?_)
theorem dancestudioref58_Write.mono : ∀ a0 a1 k, LeO (dancestudioref58_Write.f k a0 a1) (dancestudioref58_Write.f (k + 1) a0 a1) := by
 intro a0 a1 k
 have ih0 := dancestudioref58_Write.mono_l k
 unfold dancestudioref58_Write.f
 repeat' first
   | (with_reducible exact ih0 _ _ _ _)
   | (with_reducible exact dancestudioref57_Check.mono _ _ _)
   | (with_reducible exact dancestudioref58_frame.mono _ _ _ _ _ _ _ _ _ _ _ _ _ _)
   | (with_reducible exact LeO.refl _)
   | (with_reducible exact LeO.none _)
   | (with_reducible refine LeO.ite ?_ ?_)
   | (with_reducible refine LeO.bind ?_ (fun _ => ?_))
   | exact ih0 _ _ _ _
   | exact dancestudioref57_Check.mono _ _ _
   | exact dancestudioref58_frame.mono _ _ _ _ _ _ _ _ _ _ _ _ _ _
   | exact LeO.none _
   | refine LeO.ite ?_ ?_
   | refine LeO.bind ?_ (fun _ => ?_)
set_option maxHeartbeats 8000000 in
set_option maxRecDepth 100000 in
theorem dancestudioref58_Write.calls (k : Nat) (a0_0 : Int) (A0_1 : Option Addr) (c0_1 : Nat) (l0_1 : List (S30)) (r1 : List Int) (r2 : Int) (w : World) (hr0_1 : Kd.C k30 w A0_1 l0_1.length l0_1) (hc0_1 : l0_1.length ≤ c0_1) (h : dancestudioref58_Write.f k a0_0 l0_1 = some (r1, r2)) :
  Calls Try.prog 45 #[.agg #[.int .i64 a0_0, .slice A0_1 l0_1.length c0_1]] w fun e w' => ∃ v0_ : Value, e = .returned (.tuple #[v0_, .int .i64 r2]) ∧ Kd.R (Kd.int .u8) 5 w' w.heap.size (fun _ => True) v0_ r1 ∧ Below w.heap.size w w' := by
 have hu24 := Try.underlying24
 have hu30 := Try.underlying30
 have HR0_1 := Aside0.mk hr0_1
 have HC0_1 := Aside0.mk hc0_1
 clear hr0_1 hc0_1
 have HB := Aside0.mk (Below.refl w.heap.size w)
 have H : ((dancestudioref57_Check.f k a0_0 l0_1).bind fun t1443 => (if t1443 = 0 then (dancestudioref58_Write.l0 k ([] : List Int) 0 a0_0 l0_1) else (some (([] : List Int), t1443)))) = some (r1, r2) := h
 clear h
 replace H := Option.bind_eq_some_iff.mp H
 obtain ⟨t1443, A20, H⟩ := H
 replace H : (if t1443 = 0 then (dancestudioref58_Write.l0 k ([] : List Int) 0 a0_0 l0_1) else (some (([] : List Int), t1443))) = some (r1, r2) := H
 have A2 := Aside0.mk A20
 clear A20
 by_cases c3 : t1443 = 0
 ·rw [if_pos c3] at H
  have c3b0 : (t1443 == 0) = true := beq_iff_eq.mpr c3
  have c3b1 : (t1443 != 0) = false := bne_eq_false_iff_eq.mpr c3
  clear c3
  have H' := Aside0.mk H
  clear H
  go_enter Try.func45, Try.ntmps45
  go_wp2_with (first | ((with_reducible refine gate_dst (N := 1) rfl ?_); refine box_event ?hg (N := 1) ?hd (cs := #[.int .i64 a0_0, .slice A0_1 l0_1.length c0_1]) (t := 24) ?hr ?_; (case hd => rfl); (case hg => rfl); (case hr => first | (go_simp; done) | (go_simp; rfl)); intro gb1442 hg w4 hbox hb; have n0_ := Aside0.mk (below_step (hU HB.out) hb); have n1_ := Aside0.mk (hbox); have n2_ := Aside0.mk ((by rw [hg]; exact (below_size (hU HB.out)) : w.heap.size ≤ gb1442)); have n3_ := Aside0.mk ((by rw [hg]; exact (below_size (hU HB.out)) : w.heap.size ≤ gb1442)); clear HB; have HB := n0_; have BK1442 := n1_; have GW1442 := n2_; have GE1442 := n3_; clear n0_ n1_ n2_ n3_; clear hb hbox hg; have hcz5_0 := blk_cell BK1442.out; have hfz5_0 := blk_frozen BK1442.out) | ((with_reducible refine gate_callee (f := 34) rfl ?_); refine goesL_ (some 8) rfl rfl Try.func34 (by kernel_rfl) rfl #[.agg #[.int .i64 a0_0, .slice A0_1 l0_1.length c0_1]] rfl (by (try simp only [List.map_toArray, List.map_cons, List.map_nil]); first | done | rfl | (simp only [List.length_drop, List.length_take]; rfl)) ?_; (with_reducible refine (dancestudioref57_Check.calls k a0_0 _ _ l0_1 t1443 _ ?side1 ?side2 A2.out).mono ?_); (case side1 => repeat (first | exact (Kd.C_below HR0_1.out HB.out) | (with_reducible refine Kd.C_alloc ?_ _) | (with_reducible refine Kd.C_drewN ?_ _) | (with_reducible refine Kd.C_drew ?_))); (case side2 => exact HC0_1.out); rintro e w6 ⟨rfl, hb⟩; refine ⟨_, rfl, ?_⟩; replace BK1442 := Aside0.mk (blk_below (bU BK1442.out) hb); replace HB := Aside0.mk (below_step (hU HB.out) hb); (try clear hb); (try clear hb2); (try clear hk); (try clear hi)))
  go_loopg [5, 6] k (fun kq v5 v6 w' => ∃ (x5_1 : List Int) (x6_1 : Int), v6 = .int .i64 x6_1 ∧ Aside0 (dancestudioref58_Write.l0 kq x5_1 x6_1 a0_0 l0_1 = some (r1, r2)) ∧ Aside0 (kq ≤ k) ∧ Aside0 (Kd.R (Kd.int .u8) 5 w' w.heap.size (fun _ => True) v5 x5_1) ∧ Aside0 (w'.heap[gb1442]? = some (.cells #[.int .i64 a0_0, (.slice A0_1 l0_1.length c0_1)] 24 (0, 0))) ∧ Aside0 (Below w.heap.size w w'))
  case atStart => exact ⟨(([] : List Int)), (0), (by first | rfl | (simp; done) | (simp [*]; done)), H', ⟨Nat.le_refl _⟩, ⟨by first | exact Kd.R_nil _ _ _ _ _ | exact Kd.N_nil _ _ _ _ _ | exact Kd.V_nil _ _ _ _ _ | exact Kd.Q_nil _ _ _ _ _ | exact Kd.S_nil _ _ _ _ _⟩, ⟨by (with_reducible repeat (first | refine blk_drewN ?_ _ | refine blk_drew ?_ | refine blk_alloc ?_ _)); exact BK1442.out⟩, ⟨hU HB.out⟩⟩
  case round =>
   clear H'
   try clear p2
   try clear c3
   try clear c3b0
   try clear c3b1
   try clear c4
   try clear hcz5_0
   try clear hcz5_1
   try clear hfz5_0
   try clear hfz5_1
   obtain ⟨x5_1, x6_1, rfl, HA, HK1, HO_5, BK1442, HB⟩ := hrel
   cases gk with
   | zero => exact absurd HA.out (by simp [dancestudioref58_Write.l0])
   | succ k1 =>
    have H := HA.out
    clear HA
    simp only [dancestudioref58_Write.l0] at H
    by_cases c7 : x6_1 < (l0_1.length : Int)
    ·rw [if_pos c7] at H
     have c7b0 : decide (x6_1 < (l0_1.length : Int)) = true := decide_eq_true c7
     clear c7
     by_cases c8 : 0 ≤ x6_1
     rotate_left
     ·rw [if_neg c8] at H
      exact absurd H (by simp)
     rw [if_pos c8] at H
     have c8b0 : decide (0 ≤ x6_1) = true := decide_eq_true c8
     clear c8
     replace H := Option.bind_eq_some_iff.mp H
     obtain ⟨t1445, A90, H⟩ := H
     try dsimp only at H
     have A9 := Aside0.mk A90
     clear A90
     by_cases c10 : x5_1.length + t1445.length < 140737488355328
     rotate_left
     ·rw [if_neg c10] at H
      exact absurd H (by simp)
     rw [if_pos c10] at H
     have LMc10 := Aside0.mk c10
     clear c10
     obtain ⟨y1448, hy1448⟩ : ∃ y_ : List Int, y_ = (x5_1 ++ t1445) := ⟨_, rfl⟩
     replace H : (dancestudioref58_Write.l0 k1 y1448 (wrap64 (x6_1 + 1)) a0_0 l0_1) = some (r1, r2) := by first | (rw [hy1448]; with_reducible exact H) | (have H2_ := (Option.bind_some _ _).symm.trans H; rw [hy1448]; with_reducible exact H2_) | (have H2_ := (Option.bind_some _ _).symm.trans H; with_reducible exact H2_) | with_reducible exact H | (rw [hy1448]; exact H) | exact H
     have Ny1448 := Aside0.mk hy1448
     clear hy1448
     have H' := Aside0.mk H
     clear H
     have hcz11_0 := blk_cell BK1442.out
     have hfz11_0 := blk_frozen BK1442.out
     have p1444 : 0 ≤ (x6_1 : Int) := of_decide_eq_true (by first | (with_reducible assumption) | assumption)
     have q1444 : x6_1 < (l0_1.length : Int) := of_decide_eq_true (by first | (with_reducible assumption) | assumption)
     obtain ⟨ad1444, e1444, hx1444_0, hx1444_1, hx1444_2, hx1444_3, hx1444_4, hx1444_5, hx1444_6, hx1444_7, hx1444_8, hx1444_9, hx1444_10, hx1444_11, hx1444_12⟩ := at_T30 HR0_1.out x6_1 p1444 q1444
     cases e1444
     replace hx1444_0 := hbC HB hx1444_0
     replace hx1444_1 := hbC HB hx1444_1
     replace hx1444_2 := hbC HB hx1444_2
     replace hx1444_3 := hbC HB hx1444_3
     replace hx1444_4 := hbC HB hx1444_4
     replace hx1444_5 := hbC HB hx1444_5
     replace hx1444_6 := hbC HB hx1444_6
     replace hx1444_7 := hbC HB hx1444_7
     replace hx1444_8 := hbC HB hx1444_8
     replace hx1444_9 := hbC HB hx1444_9
     replace hx1444_10 := hbC HB hx1444_10
     replace hx1444_11 := hbC HB hx1444_11
     replace hx1444_12 := hbC HB hx1444_12
     replace p1444 := eq_true p1444
     replace q1444 := eq_true q1444
     go_wp2_with (first | ((with_reducible refine gate_callee (f := 85) rfl ?_); refine goesL_ (some 25) rfl rfl Try.func85 (by kernel_rfl) rfl #[.agg #[.int .i64 ((rd_T30 l0_1 x6_1).f0.f0), .int .i64 ((rd_T30 l0_1 x6_1).f0.f1), .int .i64 ((rd_T30 l0_1 x6_1).f1), .int .i64 ((rd_T30 l0_1 x6_1).f2.f0), .int .i64 ((rd_T30 l0_1 x6_1).f2.f1), .bool ((rd_T30 l0_1 x6_1).f3), .int .i64 ((rd_T30 l0_1 x6_1).f4.f0), .int .i64 ((rd_T30 l0_1 x6_1).f4.f1), .int .i64 ((rd_T30 l0_1 x6_1).f4.f2), .int .i64 ((rd_T30 l0_1 x6_1).f4.f3), .int .i64 ((rd_T30 l0_1 x6_1).f4.f4), .int .i64 ((rd_T30 l0_1 x6_1).f4.f5), .int .i64 ((rd_T30 l0_1 x6_1).f4.f6)]] rfl (by (try simp only [List.map_toArray, List.map_cons, List.map_nil]); first | done | rfl | (simp only [List.length_drop, List.length_take]; rfl)) ?_; (with_reducible refine (dancestudioref58_frame.calls k1 ((rd_T30 l0_1 x6_1).f0.f0) ((rd_T30 l0_1 x6_1).f0.f1) ((rd_T30 l0_1 x6_1).f1) ((rd_T30 l0_1 x6_1).f2.f0) ((rd_T30 l0_1 x6_1).f2.f1) ((rd_T30 l0_1 x6_1).f3) ((rd_T30 l0_1 x6_1).f4.f0) ((rd_T30 l0_1 x6_1).f4.f1) ((rd_T30 l0_1 x6_1).f4.f2) ((rd_T30 l0_1 x6_1).f4.f3) ((rd_T30 l0_1 x6_1).f4.f4) ((rd_T30 l0_1 x6_1).f4.f5) ((rd_T30 l0_1 x6_1).f4.f6) t1445 _ A9.out).mono ?_); rintro e w12 ⟨v1446, rfl, ho0, hb⟩; refine ⟨_, rfl, ?_⟩; replace HO1447 := Aside0.mk (Kd.R_lower (Kd.R_new' ho0 (Kd.R_lt (Kd.rU HO_5.out))) (below_size (hU HB.out))); replace HO_5 := Aside0.mk (Kd.R_elder' (Kd.rU HO_5.out) (Kd.R_base ho0) hb); replace BK1442 := Aside0.mk (blk_below (bU BK1442.out) hb); replace HB := Aside0.mk (below_step (hU HB.out) hb); (try clear hb); (try clear hb2); (try clear hk); (try clear hi); (try clear ho0); obtain ⟨Ao14, co14, eo14⟩ := Kd.R_slice HO1447.out; subst eo14) | ((with_reducible refine gate_builtin (b := .append) (xs := #[.tmp 19, .tmp 25]) rfl ?_); at_builtin; refine Kd.R_append_rows (Kd.int .u8) (w0 := w) w.heap.size rfl (.tmp 19) (.tmp 25) 60 5 (.int .u8 0) 1 rfl Try.underlying60 info5 rfl (by decide) (by omega) u5 x5_1 t1445 _ _ _ (fun k_ => some k_ ≠ (.slice Ao14 t1445.length co14 : Value).ownBlock) (fun _ => False) rfl rfl ?aO ?aR (fun _ _ h => h) (fun _ h => h.elim) ?aF ?aB ?aS ?aL ?_; (case aR => repeat (first | exact (Kd.R_reads' HO1447.out).2.2 | (with_reducible refine Kd.C_alloc ?_ _) | (with_reducible refine Kd.C_drewN ?_ _) | (with_reducible refine Kd.C_drew ?_))); (case aB => exact (hU HB.out)); (case aF => exact (fun k_ hk => Kd.fresh' (Kd.R_lt (Kd.rU HO1447.out)) k_ hk)); (case aO => exact (by (with_reducible repeat (first | apply Kd.R_alloc | apply Kd.R_drewN | apply Kd.R_drew)); exact Kd.R_mono HO_5.out (fun _ hk => hk.2))); (case aS => exact (below_size (hU HB.out))); (case aL => have := LMc10.out; omega); intro v1449 w13 ho hb hg hat; rw [← Ny1448.out] at ho; have n0_ := Aside0.mk (blk_grown (bU BK1442.out) hg (Kd.R_ne HO_5.out BK1442.out (by decide))); have n1_ := Aside0.mk (Kd.R_after (ok := (fun _ => True)) (Kd.rU HO1447.out) hg hat); have n2_ := Aside0.mk (hb); have n3_ := Aside0.mk (ho); clear BK1442; clear HO1447; clear HB; clear HO_5; have BK1442 := n0_; have HO1447 := n1_; have HB := n2_; have HO1450 := n3_; clear n0_ n1_ n2_ n3_; clear ho hb hg hat))
     go_roundg k1
     case measure => have := HK1.out; omega
     case rel => exact ⟨(y1448), (wrap64 (x6_1 + 1)), (by first | rfl | (simp; done) | (simp [*]; done)), H', ⟨by have := HK1.out; omega⟩, ⟨by (with_reducible repeat (first | apply Kd.R_alloc | apply Kd.R_drewN | apply Kd.R_drew)); exact Kd.R_mono HO1450.out (fun _ hk => trivial)⟩, ⟨by (with_reducible repeat (first | refine blk_drewN ?_ _ | refine blk_drew ?_ | refine blk_alloc ?_ _)); exact BK1442.out⟩, ⟨hU HB.out⟩⟩
    ·rw [if_neg c7] at H
     have c7b0 : decide (x6_1 < (l0_1.length : Int)) = false := decide_eq_false c7
     clear c7
     simp only [Option.some.injEq, Prod.mk.injEq] at H
     obtain ⟨rfl, rfl⟩ := H
     have hcz15_0 := blk_cell BK1442.out
     have hfz15_0 := blk_frozen BK1442.out
     go_wp2
     go_ret2
     exact ⟨_, by first | rfl | (simp [errW_none, errW_some] <;> rfl) | (simp [*, errW_none, errW_some] <;> rfl), by (with_reducible repeat (first | apply Kd.R_alloc | apply Kd.R_drewN | apply Kd.R_drew)); exact HO_5.out, hU HB.out⟩
 ·rw [if_neg c3] at H
  have c3b0 : (t1443 == 0) = false := beq_eq_false_iff_ne.mpr c3
  have c3b1 : (t1443 != 0) = true := bne_iff_ne.mpr c3
  simp only [Option.some.injEq, Prod.mk.injEq] at H
  obtain ⟨rfl, rfl⟩ := H
  go_enter Try.func45, Try.ntmps45
  go_wp2_with (first | ((with_reducible refine gate_dst (N := 1) rfl ?_); refine box_event ?hg (N := 1) ?hd (cs := #[.int .i64 a0_0, .slice A0_1 l0_1.length c0_1]) (t := 24) ?hr ?_; (case hd => rfl); (case hg => rfl); (case hr => first | (go_simp; done) | (go_simp; rfl)); intro gb1442 hg w16 hbox hb; have n0_ := Aside0.mk (below_step (hU HB.out) hb); have n1_ := Aside0.mk (hbox); have n2_ := Aside0.mk ((by rw [hg]; exact (below_size (hU HB.out)) : w.heap.size ≤ gb1442)); have n3_ := Aside0.mk ((by rw [hg]; exact (below_size (hU HB.out)) : w.heap.size ≤ gb1442)); clear HB; have HB := n0_; have BK1442 := n1_; have GW1442 := n2_; have GE1442 := n3_; clear n0_ n1_ n2_ n3_; clear hb hbox hg; have hcz17_0 := blk_cell BK1442.out; have hfz17_0 := blk_frozen BK1442.out) | ((with_reducible refine gate_callee (f := 34) rfl ?_); refine goesL_ (some 8) rfl rfl Try.func34 (by kernel_rfl) rfl #[.agg #[.int .i64 a0_0, .slice A0_1 l0_1.length c0_1]] rfl (by (try simp only [List.map_toArray, List.map_cons, List.map_nil]); first | done | rfl | (simp only [List.length_drop, List.length_take]; rfl)) ?_; (with_reducible refine (dancestudioref57_Check.calls k a0_0 _ _ l0_1 t1443 _ ?side1 ?side2 A2.out).mono ?_); (case side1 => repeat (first | exact (Kd.C_below HR0_1.out HB.out) | (with_reducible refine Kd.C_alloc ?_ _) | (with_reducible refine Kd.C_drewN ?_ _) | (with_reducible refine Kd.C_drew ?_))); (case side2 => exact HC0_1.out); rintro e w18 ⟨rfl, hb⟩; refine ⟨_, rfl, ?_⟩; replace BK1442 := Aside0.mk (blk_below (bU BK1442.out) hb); replace HB := Aside0.mk (below_step (hU HB.out) hb); (try clear hb); (try clear hb2); (try clear hk); (try clear hi)))
  go_ret2
  exact ⟨_, by first | rfl | (simp [errW_none, errW_some] <;> rfl) | (simp [*, errW_none, errW_some] <;> rfl), by first | exact Kd.R_nil _ _ _ _ _ | exact Kd.N_nil _ _ _ _ _ | exact Kd.V_nil _ _ _ _ _ | exact Kd.Q_nil _ _ _ _ _ | exact Kd.S_nil _ _ _ _ _, hU HB.out⟩
end Go.Proofs.Yteopkkoblbmggaa.P
end

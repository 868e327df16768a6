/- Texts of this claim in one: VP21, VP8, VP5, VOf; no condition. -/
import Derived.Test.YteopkkoblbmggaaQAAC
import Derived.Test.YteopkkoblbmggaaQAAE
import Derived.Deep.Light
section
namespace Go.Proofs.Yteopkkoblbmggaa.P
open Go.RowKit Go.Proofs.YteopkkoblbmggaaW.PrintWords Go.Proofs.YteopkkoblbmggaaW.PrintLast Go.Proofs.YteopkkoblbmggaaW.PrintMore
attribute [local go_sem] YR YT Y11 Y12 YI YJ YS YU
set_option linter.unusedVariables false
set_option linter.unusedSimpArgs false
def YB.f  : Option (Int × Int × Int × Int × Int × Int × Int) := some (2, 0, 0, 24, 0, 0, 0)
set_option maxHeartbeats 8000000 in
set_option maxRecDepth 100000 in
theorem YB.calls  (r1 : Int) (r2 : Int) (r3 : Int) (r4 : Int) (r5 : Int) (r6 : Int) (r7 : Int) (w : World) (h : YB.f  = some (r1, r2, r3, r4, r5, r6, r7)) :
  Calls Try.prog 49 #[] w fun e w' => e = .returned (.agg #[.int .i64 r1, .int .i64 r2, .int .i64 r3, .int .i64 r4, .int .i64 r5, .int .i64 r6, .int .i64 r7]) ∧ Below w.heap.size w w' := by
 have hu28 := Try.underlying28
 have HB := Y0.mk (Below.refl w.heap.size w)
 have H : (some (2, 0, 0, 24, 0, 0, 0)) = some (r1, r2, r3, r4, r5, r6, r7) := h
 clear h
 simp only [Option.some.injEq, Prod.mk.injEq] at H
 obtain ⟨rfl, rfl, rfl, rfl, rfl, rfl, rfl⟩ := H
 go_enter Try.func49, Try.ntmps49
 go_wp2_with (first | ((with_reducible refine Ye (N := 0) rfl ?_); refine Yh ?hg (N := 0) ?hd (cs := #[.int .i64 0, .int .i64 0, .int .i64 0, .int .i64 0, .int .i64 0, .int .i64 0, .int .i64 0]) (t := 28) ?hr ?_; (case hd => rfl); (case hg => rfl); (case hr => first | (go_simp; done) | (go_simp; rfl)); intro g_1 hg w1 hbox hb; have n0_ := Y0.mk (Y3 (hU HB.out) hb); have n1_ := Y0.mk (hbox); have n2_ := gE hg HB; have n3_ := gE hg HB; clear HB; have HB := n0_; have B_8 := n1_; have W_6 := n2_; have G_1 := n3_; clear n0_ n1_ n2_ n3_; clear hb hbox hg; have z_0 := Y2 B_8.out; have f_0 := Y7 B_8.out))
 refine bodyPost_ret (results_cell_row rfl _ _ g_1 28 #[.int .i64 2, .int .i64 0, .int .i64 0, .int .i64 24, .int .i64 0, .int .i64 0, .int .i64 0] (0, 0) _ rfl (by (with_reducible repeat (first | refine Y5 ?_ _ | refine Y6 ?_ | refine Y4 ?_ _)); apply Ym; (iterate 6 ((with_reducible repeat (first | refine Y5 ?_ _ | refine Y6 ?_ | refine Y4 ?_ _)); apply Y2g)); (with_reducible repeat (first | refine Y5 ?_ _ | refine Y6 ?_ | refine Y4 ?_ _)); exact B_8.out; simp only [List.setIfInBounds_toArray, List.set_cons_zero, List.set_cons_succ]) Try.underlying28 rfl (by kernel_rfl)) rfl ?_
 exact ⟨reT, hU HB.out⟩
def YH.f  : Option (Int × Int × Int × Int × Int × Int × Int) := some (1, 1, 0, 24, 1, 0, 0)
set_option maxHeartbeats 8000000 in
set_option maxRecDepth 100000 in
theorem YH.calls  (r1 : Int) (r2 : Int) (r3 : Int) (r4 : Int) (r5 : Int) (r6 : Int) (r7 : Int) (w : World) (h : YH.f  = some (r1, r2, r3, r4, r5, r6, r7)) :
  Calls Try.prog 50 #[] w fun e w' => e = .returned (.agg #[.int .i64 r1, .int .i64 r2, .int .i64 r3, .int .i64 r4, .int .i64 r5, .int .i64 r6, .int .i64 r7]) ∧ Below w.heap.size w w' := by
 have hu28 := Try.underlying28
 have HB := Y0.mk (Below.refl w.heap.size w)
 have H : (some (1, 1, 0, 24, 1, 0, 0)) = some (r1, r2, r3, r4, r5, r6, r7) := h
 clear h
 simp only [Option.some.injEq, Prod.mk.injEq] at H
 obtain ⟨rfl, rfl, rfl, rfl, rfl, rfl, rfl⟩ := H
 go_enter Try.func50, Try.ntmps50
 go_wp2_with (first | ((with_reducible refine Ye (N := 0) rfl ?_); refine Yh ?hg (N := 0) ?hd (cs := #[.int .i64 0, .int .i64 0, .int .i64 0, .int .i64 0, .int .i64 0, .int .i64 0, .int .i64 0]) (t := 28) ?hr ?_; (case hd => rfl); (case hg => rfl); (case hr => first | (go_simp; done) | (go_simp; rfl)); intro g_3 hg w1 hbox hb; have n0_ := Y0.mk (Y3 (hU HB.out) hb); have n1_ := Y0.mk (hbox); have n2_ := gE hg HB; have n3_ := gE hg HB; clear HB; have HB := n0_; have B_5 := n1_; have W_2 := n2_; have G_6 := n3_; clear n0_ n1_ n2_ n3_; clear hb hbox hg; have z_0 := Y2 B_5.out; have f_0 := Y7 B_5.out))
 refine bodyPost_ret (results_cell_row rfl _ _ g_3 28 #[.int .i64 1, .int .i64 1, .int .i64 0, .int .i64 24, .int .i64 1, .int .i64 0, .int .i64 0] (0, 0) _ rfl (by (with_reducible repeat (first | refine Y5 ?_ _ | refine Y6 ?_ | refine Y4 ?_ _)); apply Ym; (iterate 6 ((with_reducible repeat (first | refine Y5 ?_ _ | refine Y6 ?_ | refine Y4 ?_ _)); apply Y2g)); (with_reducible repeat (first | refine Y5 ?_ _ | refine Y6 ?_ | refine Y4 ?_ _)); exact B_5.out; simp only [List.setIfInBounds_toArray, List.set_cons_zero, List.set_cons_succ]) Try.underlying28 rfl (by kernel_rfl)) rfl ?_
 exact ⟨reT, hU HB.out⟩
def Yd.f (a0 : Int) (a1 : Int) : Option (Int × Int) := some (a0, a1)
set_option maxHeartbeats 8000000 in
set_option maxRecDepth 100000 in
theorem Yd.calls (a0 : Int) (a1 : Int) (r1 : Int) (r2 : Int) (w : World) (h : Yd.f a0 a1 = some (r1, r2)) :
  Calls Try.prog 51 #[.int .i64 a0, .int .i64 a1] w fun e w' => e = .returned (.agg #[.int .i64 r1, .int .i64 r2]) ∧ Below w.heap.size w w' := by
 have hu26 := Try.underlying26
 have HB := Y0.mk (Below.refl w.heap.size w)
 have H : (some (a0, a1)) = some (r1, r2) := h
 clear h
 simp only [Option.some.injEq, Prod.mk.injEq] at H
 obtain ⟨rfl, rfl⟩ := H
 go_enter Try.func51, Try.ntmps51
 go_wp2_with (first | ((with_reducible refine Ye (N := 4) rfl ?_); refine Yh ?hg (N := 4) ?hd (cs := #[.int .i64 0, .int .i64 0]) (t := 26) ?hr ?_; (case hd => rfl); (case hg => rfl); (case hr => first | (go_simp; done) | (go_simp; rfl)); intro g_5 hg w3 hbox hb; have n0_ := Y0.mk (Y3 (hU HB.out) hb); have n1_ := Y0.mk (hbox); have n2_ := gE hg HB; have n3_ := gE hg HB; clear HB; have HB := n0_; have B_4 := n1_; have W_0 := n2_; have G_4 := n3_; clear n0_ n1_ n2_ n3_; clear hb hbox hg; have z_2 := Y2 B_4.out; have f_3 := Y7 B_4.out))
 refine bodyPost_ret (results_cell_row rfl _ _ g_5 26 #[.int .i64 a0, .int .i64 a1] (0, 0) _ rfl (by (with_reducible repeat (first | refine Y5 ?_ _ | refine Y6 ?_ | refine Y4 ?_ _)); refine Ym (cs := #[.int .i64 a0, .int .i64 0]) ?_ 1 _ rfl; (with_reducible repeat (first | refine Y5 ?_ _ | refine Y6 ?_ | refine Y4 ?_ _)); refine Ym (cs := #[.int .i64 0, .int .i64 0]) ?_ 0 _ rfl; (with_reducible repeat (first | refine Y5 ?_ _ | refine Y6 ?_ | refine Y4 ?_ _)); exact B_4.out) Try.underlying26 rfl (by kernel_rfl)) rfl ?_
 exact ⟨reT, hU HB.out⟩
def Yr.f (a0_0 : Int) (a0_1 : Int) (a1_0 : Int) (a1_1 : Int) (a2_0 : Int) (a2_1 : Int) (a2_2 : Int) (a2_3 : Int) (a2_4 : Int) (a2_5 : Int) (a2_6 : Int) : Option (Int × Int × Int × Int × Int × Bool × Int × Int × Int × Int × Int × Int × Int) := some (a0_0, a0_1, 0, a1_0, a1_1, false, a2_0, a2_1, a2_2, a2_3, a2_4, a2_5, a2_6)
set_option maxHeartbeats 8000000 in
set_option maxRecDepth 100000 in
theorem Yr.calls (a0_0 : Int) (a0_1 : Int) (a1_0 : Int) (a1_1 : Int) (a2_0 : Int) (a2_1 : Int) (a2_2 : Int) (a2_3 : Int) (a2_4 : Int) (a2_5 : Int) (a2_6 : Int) (r1 : Int) (r2 : Int) (r3 : Int) (r4 : Int) (r5 : Int) (r6 : Bool) (r7 : Int) (r8 : Int) (r9 : Int) (r10 : Int) (r11 : Int) (r12 : Int) (r13 : Int) (w : World) (h : Yr.f a0_0 a0_1 a1_0 a1_1 a2_0 a2_1 a2_2 a2_3 a2_4 a2_5 a2_6 = some (r1, r2, r3, r4, r5, r6, r7, r8, r9, r10, r11, r12, r13)) :
  Calls Try.prog 52 #[.agg #[.int .i64 a0_0, .int .i64 a0_1], .agg #[.int .i64 a1_0, .int .i64 a1_1], .agg #[.int .i64 a2_0, .int .i64 a2_1, .int .i64 a2_2, .int .i64 a2_3, .int .i64 a2_4, .int .i64 a2_5, .int .i64 a2_6]] w fun e w' => e = .returned (.agg #[.int .i64 r1, .int .i64 r2, .int .i64 r3, .int .i64 r4, .int .i64 r5, .bool r6, .int .i64 r7, .int .i64 r8, .int .i64 r9, .int .i64 r10, .int .i64 r11, .int .i64 r12, .int .i64 r13]) ∧ Below w.heap.size w w' := by
 have hu26 := Try.underlying26
 have hu28 := Try.underlying28
 have hu30 := Try.underlying30
 have HB := Y0.mk (Below.refl w.heap.size w)
 have H : (some (a0_0, a0_1, 0, a1_0, a1_1, false, a2_0, a2_1, a2_2, a2_3, a2_4, a2_5, a2_6)) = some (r1, r2, r3, r4, r5, r6, r7, r8, r9, r10, r11, r12, r13) := h
 clear h
 simp only [Option.some.injEq, Prod.mk.injEq] at H
 obtain ⟨rfl, rfl, rfl, rfl, rfl, rfl, rfl, rfl, rfl, rfl, rfl, rfl, rfl⟩ := H
 go_enter Try.func52, Try.ntmps52
 go_wp2_with (first | ((with_reducible refine Ye (N := 3) rfl ?_); refine Yh ?hg (N := 3) ?hd (cs := #[.int .i64 a0_0, .int .i64 a0_1]) (t := 26) ?hr ?_; (case hd => rfl); (case hg => rfl); (case hr => first | (go_simp; done) | (go_simp; rfl)); intro g_6 hg w4 hbox hb; have n0_ := Y0.mk (Y3 (hU HB.out) hb); have n1_ := Y0.mk (hbox); have n2_ := gE hg HB; have n3_ := gE hg HB; clear HB; have HB := n0_; have B_1 := n1_; have W_8 := n2_; have G_0 := n3_; clear n0_ n1_ n2_ n3_; clear hb hbox hg) | ((with_reducible refine Ye (N := 4) rfl ?_); refine Yh ?hg (N := 4) ?hd (cs := #[.int .i64 a1_0, .int .i64 a1_1]) (t := 26) ?hr ?_; (case hd => rfl); (case hg => rfl); (case hr => first | (go_simp; done) | (go_simp; rfl)); intro g_7 hg w5 hbox hb; have n0_ := Y0.mk (Y1 (bU B_1.out) hb); have n1_ := Y0.mk (Y3 (hU HB.out) hb); have n2_ := Y0.mk (hbox); have n3_ := gE hg HB; have n4_ := gE hg HB; have n5_ := gL hg B_1; have n6_ := gG hg B_1; clear B_1; clear HB; have B_1 := n0_; have HB := n1_; have B_2 := n2_; have W_3 := n3_; have G_8 := n4_; have N_0 := n5_; have N_7 := n6_; clear n0_ n1_ n2_ n3_ n4_ n5_ n6_; clear hb hbox hg) | ((with_reducible refine Ye (N := 5) rfl ?_); refine Yh ?hg (N := 5) ?hd (cs := #[.int .i64 a2_0, .int .i64 a2_1, .int .i64 a2_2, .int .i64 a2_3, .int .i64 a2_4, .int .i64 a2_5, .int .i64 a2_6]) (t := 28) ?hr ?_; (case hd => rfl); (case hg => rfl); (case hr => first | (go_simp; done) | (go_simp; rfl)); intro g_8 hg w6 hbox hb; have n0_ := Y0.mk (Y1 (bU B_1.out) hb); have n1_ := Y0.mk (Y1 (bU B_2.out) hb); have n2_ := Y0.mk (Y3 (hU HB.out) hb); have n3_ := Y0.mk (hbox); have n4_ := gE hg HB; have n5_ := gE hg HB; have n6_ := gL hg B_1; have n7_ := gG hg B_1; have n8_ := gL hg B_2; have n9_ := gG hg B_2; clear B_1; clear B_2; clear HB; have B_1 := n0_; have B_2 := n1_; have HB := n2_; have B_3 := n3_; have W_4 := n4_; have G_5 := n5_; have N_6 := n6_; have N_a := n7_; have N_5 := n8_; have N_1 := n9_; clear n0_ n1_ n2_ n3_ n4_ n5_ n6_ n7_ n8_ n9_; clear hb hbox hg) | ((with_reducible refine Ye (N := 6) rfl ?_); refine Yh ?hg (N := 6) ?hd (cs := #[.int .i64 0, .int .i64 0, .int .i64 0, .int .i64 0, .int .i64 0, .bool false, .int .i64 0, .int .i64 0, .int .i64 0, .int .i64 0, .int .i64 0, .int .i64 0, .int .i64 0]) (t := 30) ?hr ?_; (case hd => rfl); (case hg => rfl); (case hr => first | (go_simp; done) | (go_simp; rfl)); intro g_2 hg w7 hbox hb; have n0_ := Y0.mk (Y1 (bU B_1.out) hb); have n1_ := Y0.mk (Y1 (bU B_2.out) hb); have n2_ := Y0.mk (Y1 (bU B_3.out) hb); have n3_ := Y0.mk (Y3 (hU HB.out) hb); have n4_ := Y0.mk (hbox); have n5_ := gE hg HB; have n6_ := gE hg HB; have n7_ := gL hg B_1; have n8_ := gG hg B_1; have n9_ := gL hg B_2; have n10_ := gG hg B_2; have n11_ := gL hg B_3; have n12_ := gG hg B_3; clear B_1; clear B_2; clear B_3; clear HB; have B_1 := n0_; have B_2 := n1_; have B_3 := n2_; have HB := n3_; have B_7 := n4_; have W_5 := n5_; have G_2 := n6_; have N_2 := n7_; have N_8 := n8_; have N_4 := n9_; have N_3 := n10_; have N_b := n11_; have N_9 := n12_; clear n0_ n1_ n2_ n3_ n4_ n5_ n6_ n7_ n8_ n9_ n10_ n11_ n12_; clear hb hbox hg; have hnb8 := N_0.out; have hnc8 := N_7.out; have hnb9 := N_6.out; have hnc9 := N_a.out; have hnb10 := N_2.out; have hnc10 := N_8.out; have z_1 := Y2 B_1.out; have f_1 := Y7 B_1.out; have hnb12 := N_5.out; have hnc12 := N_1.out; have hnb13 := N_4.out; have hnc13 := N_3.out; have z_3 := Y2 B_2.out; have f_2 := Y7 B_2.out; have hnb15 := N_b.out; have hnc15 := N_9.out; have z_5 := Y2 B_3.out; have f_4 := Y7 B_3.out; have z_6 := Y2 B_7.out; have f_5 := Y7 B_7.out))
 refine bodyPost_ret (results_cell_row rfl _ _ g_2 30 #[.int .i64 a0_0, .int .i64 a0_1, .int .i64 0, .int .i64 a1_0, .int .i64 a1_1, .bool false, .int .i64 a2_0, .int .i64 a2_1, .int .i64 a2_2, .int .i64 a2_3, .int .i64 a2_4, .int .i64 a2_5, .int .i64 a2_6] (0, 0) _ rfl (by (with_reducible repeat (first | refine Y5 ?_ _ | refine Y6 ?_ | refine Y4 ?_ _)); apply Ym; (iterate 12 ((with_reducible repeat (first | refine Y5 ?_ _ | refine Y6 ?_ | refine Y4 ?_ _)); apply Y2g)); (with_reducible repeat (first | refine Y5 ?_ _ | refine Y6 ?_ | refine Y4 ?_ _)); exact B_7.out; simp only [List.setIfInBounds_toArray, List.set_cons_zero, List.set_cons_succ]) Try.underlying30 rfl (by kernel_rfl)) rfl ?_
 exact ⟨reT, hU HB.out⟩
def Y10.f  : Option (Int × Int × Int × Int × Int × Int × Int) := some (1, 0, 12, 24, 1, 0, 0)
set_option maxHeartbeats 8000000 in
set_option maxRecDepth 100000 in
theorem Y10.calls  (r1 : Int) (r2 : Int) (r3 : Int) (r4 : Int) (r5 : Int) (r6 : Int) (r7 : Int) (w : World) (h : Y10.f  = some (r1, r2, r3, r4, r5, r6, r7)) :
  Calls Try.prog 53 #[] w fun e w' => e = .returned (.agg #[.int .i64 r1, .int .i64 r2, .int .i64 r3, .int .i64 r4, .int .i64 r5, .int .i64 r6, .int .i64 r7]) ∧ Below w.heap.size w w' := by
 have hu28 := Try.underlying28
 have HB := Y0.mk (Below.refl w.heap.size w)
 have H : (some (1, 0, 12, 24, 1, 0, 0)) = some (r1, r2, r3, r4, r5, r6, r7) := h
 clear h
 simp only [Option.some.injEq, Prod.mk.injEq] at H
 obtain ⟨rfl, rfl, rfl, rfl, rfl, rfl, rfl⟩ := H
 go_enter Try.func53, Try.ntmps53
 go_wp2_with (first | ((with_reducible refine Ye (N := 0) rfl ?_); refine Yh ?hg (N := 0) ?hd (cs := #[.int .i64 0, .int .i64 0, .int .i64 0, .int .i64 0, .int .i64 0, .int .i64 0, .int .i64 0]) (t := 28) ?hr ?_; (case hd => rfl); (case hg => rfl); (case hr => first | (go_simp; done) | (go_simp; rfl)); intro g_4 hg w1 hbox hb; have n0_ := Y0.mk (Y3 (hU HB.out) hb); have n1_ := Y0.mk (hbox); have n2_ := gE hg HB; have n3_ := gE hg HB; clear HB; have HB := n0_; have B_6 := n1_; have W_1 := n2_; have G_3 := n3_; clear n0_ n1_ n2_ n3_; clear hb hbox hg; have z_0 := Y2 B_6.out; have f_0 := Y7 B_6.out))
 refine bodyPost_ret (results_cell_row rfl _ _ g_4 28 #[.int .i64 1, .int .i64 0, .int .i64 12, .int .i64 24, .int .i64 1, .int .i64 0, .int .i64 0] (0, 0) _ rfl (by (with_reducible repeat (first | refine Y5 ?_ _ | refine Y6 ?_ | refine Y4 ?_ _)); apply Ym; (iterate 6 ((with_reducible repeat (first | refine Y5 ?_ _ | refine Y6 ?_ | refine Y4 ?_ _)); apply Y2g)); (with_reducible repeat (first | refine Y5 ?_ _ | refine Y6 ?_ | refine Y4 ?_ _)); exact B_6.out; simp only [List.setIfInBounds_toArray, List.set_cons_zero, List.set_cons_succ]) Try.underlying28 rfl (by kernel_rfl)) rfl ?_
 exact ⟨reT, hU HB.out⟩
def Y1h.f  : Option (Int × (List (S30))) := (Yd.f 1 1).bind fun b_6 => ((Yd.f 1 1).bind fun b_7 => ((YB.f).bind fun b_3 => ((Yr.f b_6.1 b_6.2 b_7.1 b_7.2 b_3.1 b_3.2.1 b_3.2.2.1 b_3.2.2.2.1 b_3.2.2.2.2.1 b_3.2.2.2.2.2.1 b_3.2.2.2.2.2.2).bind fun b_0 => ((Yd.f 2 2).bind fun b_b => ((Yd.f 2 2).bind fun b_8 => ((Y10.f).bind fun b_5 => ((Yr.f b_b.1 b_b.2 b_8.1 b_8.2 b_5.1 b_5.2.1 b_5.2.2.1 b_5.2.2.2.1 b_5.2.2.2.2.1 b_5.2.2.2.2.2.1 b_5.2.2.2.2.2.2).bind fun b_1 => ((Yd.f 3 1).bind fun b_9 => ((Yd.f 2 2).bind fun b_a => ((YH.f).bind fun b_4 => ((Yr.f b_9.1 b_9.2 b_a.1 b_a.2 b_4.1 b_4.2.1 b_4.2.2.1 b_4.2.2.2.1 b_4.2.2.2.2.1 b_4.2.2.2.2.2.1 b_4.2.2.2.2.2.2).bind fun b_2 => (some (1, (([(⟨(⟨b_0.1, b_0.2.1⟩ : S26), b_0.2.2.1, (⟨b_0.2.2.2.1, b_0.2.2.2.2.1⟩ : S26), b_0.2.2.2.2.2.1, (⟨b_0.2.2.2.2.2.2.1, b_0.2.2.2.2.2.2.2.1, b_0.2.2.2.2.2.2.2.2.1, b_0.2.2.2.2.2.2.2.2.2.1, b_0.2.2.2.2.2.2.2.2.2.2.1, b_0.2.2.2.2.2.2.2.2.2.2.2.1, b_0.2.2.2.2.2.2.2.2.2.2.2.2⟩ : S28)⟩ : S30), (⟨(⟨b_1.1, b_1.2.1⟩ : S26), b_1.2.2.1, (⟨b_1.2.2.2.1, b_1.2.2.2.2.1⟩ : S26), b_1.2.2.2.2.2.1, (⟨b_1.2.2.2.2.2.2.1, b_1.2.2.2.2.2.2.2.1, b_1.2.2.2.2.2.2.2.2.1, b_1.2.2.2.2.2.2.2.2.2.1, b_1.2.2.2.2.2.2.2.2.2.2.1, b_1.2.2.2.2.2.2.2.2.2.2.2.1, b_1.2.2.2.2.2.2.2.2.2.2.2.2⟩ : S28)⟩ : S30), (⟨(⟨b_2.1, b_2.2.1⟩ : S26), b_2.2.2.1, (⟨b_2.2.2.2.1, b_2.2.2.2.2.1⟩ : S26), b_2.2.2.2.2.2.1, (⟨b_2.2.2.2.2.2.2.1, b_2.2.2.2.2.2.2.2.1, b_2.2.2.2.2.2.2.2.2.1, b_2.2.2.2.2.2.2.2.2.2.1, b_2.2.2.2.2.2.2.2.2.2.2.1, b_2.2.2.2.2.2.2.2.2.2.2.2.1, b_2.2.2.2.2.2.2.2.2.2.2.2.2⟩ : S28)⟩ : S30)] : List (S30))))))))))))))))
set_option maxHeartbeats 8000000 in
set_option maxRecDepth 100000 in
theorem Y1h.calls  (r1 : Int) (r2 : List (S30)) (w : World) (h : Y1h.f  = some (r1, r2)) :
  Calls Try.prog 35 #[] w fun e w' => ∃ v1_ : Value, e = .returned (.agg #[.int .i64 r1, v1_]) ∧ Kd.R k30 30 w' w.heap.size (fun _ => True) v1_ r2 ∧ Below w.heap.size w w' := by
 have hu24 := Try.underlying24
 have HB := Y0.mk (Below.refl w.heap.size w)
 have H : ((Yd.f 1 1).bind fun b_6 => ((Yd.f 1 1).bind fun b_7 => ((YB.f).bind fun b_3 => ((Yr.f b_6.1 b_6.2 b_7.1 b_7.2 b_3.1 b_3.2.1 b_3.2.2.1 b_3.2.2.2.1 b_3.2.2.2.2.1 b_3.2.2.2.2.2.1 b_3.2.2.2.2.2.2).bind fun b_0 => ((Yd.f 2 2).bind fun b_b => ((Yd.f 2 2).bind fun b_8 => ((Y10.f).bind fun b_5 => ((Yr.f b_b.1 b_b.2 b_8.1 b_8.2 b_5.1 b_5.2.1 b_5.2.2.1 b_5.2.2.2.1 b_5.2.2.2.2.1 b_5.2.2.2.2.2.1 b_5.2.2.2.2.2.2).bind fun b_1 => ((Yd.f 3 1).bind fun b_9 => ((Yd.f 2 2).bind fun b_a => ((YH.f).bind fun b_4 => ((Yr.f b_9.1 b_9.2 b_a.1 b_a.2 b_4.1 b_4.2.1 b_4.2.2.1 b_4.2.2.2.1 b_4.2.2.2.2.1 b_4.2.2.2.2.2.1 b_4.2.2.2.2.2.2).bind fun b_2 => (some (1, (([(⟨(⟨b_0.1, b_0.2.1⟩ : S26), b_0.2.2.1, (⟨b_0.2.2.2.1, b_0.2.2.2.2.1⟩ : S26), b_0.2.2.2.2.2.1, (⟨b_0.2.2.2.2.2.2.1, b_0.2.2.2.2.2.2.2.1, b_0.2.2.2.2.2.2.2.2.1, b_0.2.2.2.2.2.2.2.2.2.1, b_0.2.2.2.2.2.2.2.2.2.2.1, b_0.2.2.2.2.2.2.2.2.2.2.2.1, b_0.2.2.2.2.2.2.2.2.2.2.2.2⟩ : S28)⟩ : S30), (⟨(⟨b_1.1, b_1.2.1⟩ : S26), b_1.2.2.1, (⟨b_1.2.2.2.1, b_1.2.2.2.2.1⟩ : S26), b_1.2.2.2.2.2.1, (⟨b_1.2.2.2.2.2.2.1, b_1.2.2.2.2.2.2.2.1, b_1.2.2.2.2.2.2.2.2.1, b_1.2.2.2.2.2.2.2.2.2.1, b_1.2.2.2.2.2.2.2.2.2.2.1, b_1.2.2.2.2.2.2.2.2.2.2.2.1, b_1.2.2.2.2.2.2.2.2.2.2.2.2⟩ : S28)⟩ : S30), (⟨(⟨b_2.1, b_2.2.1⟩ : S26), b_2.2.2.1, (⟨b_2.2.2.2.1, b_2.2.2.2.2.1⟩ : S26), b_2.2.2.2.2.2.1, (⟨b_2.2.2.2.2.2.2.1, b_2.2.2.2.2.2.2.2.1, b_2.2.2.2.2.2.2.2.2.1, b_2.2.2.2.2.2.2.2.2.2.1, b_2.2.2.2.2.2.2.2.2.2.2.1, b_2.2.2.2.2.2.2.2.2.2.2.2.1, b_2.2.2.2.2.2.2.2.2.2.2.2.2⟩ : S28)⟩ : S30)] : List (S30))))))))))))))))) = some (r1, r2) := h
 clear h
 obtain ⟨⟨t162, t163⟩, A10, H⟩ := bS H
 try dsimp only at H
 have A1 := Y0.mk A10
 clear A10
 obtain ⟨⟨t164, t165⟩, A20, H⟩ := bS H
 try dsimp only at H
 have A2 := Y0.mk A20
 clear A20
 obtain ⟨⟨t166, t167, t168, t169, t170, t171, t172⟩, A30, H⟩ := bS H
 try dsimp only at H
 have A3 := Y0.mk A30
 clear A30
 obtain ⟨⟨t_o, t_1, t_n, t_l, t_u, t_i, t_m, t_7, t_g, t_b, t183, t_d, t_s⟩, A40, H⟩ := bS H
 try dsimp only at H
 have A4 := Y0.mk A40
 clear A40
 obtain ⟨⟨t186, t187⟩, A50, H⟩ := bS H
 try dsimp only at H
 have A5 := Y0.mk A50
 clear A50
 obtain ⟨⟨t188, t189⟩, A60, H⟩ := bS H
 try dsimp only at H
 have A6 := Y0.mk A60
 clear A60
 obtain ⟨⟨t190, t191, t192, t193, t194, t195, t196⟩, A70, H⟩ := bS H
 try dsimp only at H
 have A7 := Y0.mk A70
 clear A70
 obtain ⟨⟨t_w, t_v, t_c, t_r, t_t, t_2, t203, t_a, t_j, t_6, t_k, t_z, t_e⟩, A80, H⟩ := bS H
 try dsimp only at H
 have A8 := Y0.mk A80
 clear A80
 obtain ⟨⟨t210, t211⟩, A90, H⟩ := bS H
 try dsimp only at H
 have A9 := Y0.mk A90
 clear A90
 obtain ⟨⟨t212, t213⟩, A100, H⟩ := bS H
 try dsimp only at H
 have A10 := Y0.mk A100
 clear A100
 obtain ⟨⟨t214, t215, t216, t217, t218, t219, t220⟩, A110, H⟩ := bS H
 try dsimp only at H
 have A11 := Y0.mk A110
 clear A110
 obtain ⟨⟨t_p, t222, t_h, t_8, t_q, t_9, t_3, t_4, t_f, t_5, t_y, t_0, t_x⟩, A120, H⟩ := bS H
 try dsimp only at H
 have A12 := Y0.mk A120
 clear A120
 obtain ⟨y234, hy234⟩ : ∃ y_ : List (S30), y_ = (([(⟨(⟨t_o, t_1⟩ : S26), t_n, (⟨t_l, t_u⟩ : S26), t_i, (⟨t_m, t_7, t_g, t_b, t183, t_d, t_s⟩ : S28)⟩ : S30), (⟨(⟨t_w, t_v⟩ : S26), t_c, (⟨t_r, t_t⟩ : S26), t_2, (⟨t203, t_a, t_j, t_6, t_k, t_z, t_e⟩ : S28)⟩ : S30), (⟨(⟨t_p, t222⟩ : S26), t_h, (⟨t_8, t_q⟩ : S26), t_9, (⟨t_3, t_4, t_f, t_5, t_y, t_0, t_x⟩ : S28)⟩ : S30)] : List (S30))) := ⟨_, rfl⟩
 replace H : (some (1, y234)) = some (r1, r2) := by first | (rw [hy234]; with_reducible exact H) | (have H2_ := (Option.bind_some _ _).symm.trans H; rw [hy234]; with_reducible exact H2_) | (have H2_ := (Option.bind_some _ _).symm.trans H; with_reducible exact H2_) | with_reducible exact H | (rw [hy234]; exact H) | exact H
 have Ny234 := Y0.mk hy234
 clear hy234
 simp only [Option.some.injEq, Prod.mk.injEq] at H
 obtain ⟨rfl, rfl⟩ := H
 go_enter Try.func35, Try.ntmps35
 go_wp2_with (first | ((with_reducible refine Ye (N := 0) rfl ?_); refine Yh ?hg (N := 0) ?hd (cs := #[.int .i64 0, .slice none 0 0]) (t := 24) ?hr ?_; (case hd => rfl); (case hg => rfl); (case hr => first | (go_simp; done) | (go_simp; rfl)); intro g_0 hg w13 hbox hb; have n0_ := Y0.mk (Y3 (hU HB.out) hb); have n1_ := Y0.mk (hbox); have n2_ := gE hg HB; have n3_ := gE hg HB; clear HB; have HB := n0_; have B_0 := n1_; have W_7 := n2_; have G_7 := n3_; clear n0_ n1_ n2_ n3_; clear hb hbox hg) | ((with_reducible refine Ye (N := 1) rfl ?_); (with_reducible refine Yc (f := 51) rfl ?_); refine YO (some 1) rfl rfl Try.func51 (by kernel_rfl) rfl #[.int .i64 1, .int .i64 1] rfl (by (try simp only [List.map_toArray, List.map_cons, List.map_nil]); first | done | (go_simp; done) | rfl | (simp only [List.length_drop, List.length_take]; rfl)) ?_; (with_reducible refine (Yd.calls 1 1 t162 t163 _ A1.out).mono ?_); rintro e w14 ⟨rfl, hb⟩; refine ⟨_, rfl, ?_⟩; replace B_0 := Y0.mk (Y1 (bU B_0.out) hb); replace HB := Y0.mk (Y3 (hU HB.out) hb); (try clear hb); (try clear hb2); (try clear hk); (try clear hi)) | ((with_reducible refine Ye (N := 2) rfl ?_); (with_reducible refine Yc (f := 51) rfl ?_); refine YO (some 2) rfl rfl Try.func51 (by kernel_rfl) rfl #[.int .i64 1, .int .i64 1] rfl (by (try simp only [List.map_toArray, List.map_cons, List.map_nil]); first | done | (go_simp; done) | rfl | (simp only [List.length_drop, List.length_take]; rfl)) ?_; (with_reducible refine (Yd.calls 1 1 t164 t165 _ A2.out).mono ?_); rintro e w15 ⟨rfl, hb⟩; refine ⟨_, rfl, ?_⟩; replace B_0 := Y0.mk (Y1 (bU B_0.out) hb); replace HB := Y0.mk (Y3 (hU HB.out) hb); (try clear hb); (try clear hb2); (try clear hk); (try clear hi)) | ((with_reducible refine Ye (N := 3) rfl ?_); (with_reducible refine Yc (f := 49) rfl ?_); refine YO (some 3) rfl rfl Try.func49 (by kernel_rfl) rfl #[] rfl (by (try simp only [List.map_toArray, List.map_cons, List.map_nil]); first | done | (go_simp; done) | rfl | (simp only [List.length_drop, List.length_take]; rfl)) ?_; (with_reducible refine (YB.calls  t166 t167 t168 t169 t170 t171 t172 _ A3.out).mono ?_); rintro e w16 ⟨rfl, hb⟩; refine ⟨_, rfl, ?_⟩; replace B_0 := Y0.mk (Y1 (bU B_0.out) hb); replace HB := Y0.mk (Y3 (hU HB.out) hb); (try clear hb); (try clear hb2); (try clear hk); (try clear hi)) | ((with_reducible refine Ye (N := 4) rfl ?_); (with_reducible refine Yc (f := 52) rfl ?_); refine YO (some 4) rfl rfl Try.func52 (by kernel_rfl) rfl #[.agg #[.int .i64 t162, .int .i64 t163], .agg #[.int .i64 t164, .int .i64 t165], .agg #[.int .i64 t166, .int .i64 t167, .int .i64 t168, .int .i64 t169, .int .i64 t170, .int .i64 t171, .int .i64 t172]] rfl (by (try simp only [List.map_toArray, List.map_cons, List.map_nil]); first | done | (go_simp; done) | rfl | (simp only [List.length_drop, List.length_take]; rfl)) ?_; (with_reducible refine (Yr.calls t162 t163 t164 t165 t166 t167 t168 t169 t170 t171 t172 t_o t_1 t_n t_l t_u t_i t_m t_7 t_g t_b t183 t_d t_s _ A4.out).mono ?_); rintro e w17 ⟨rfl, hb⟩; refine ⟨_, rfl, ?_⟩; replace B_0 := Y0.mk (Y1 (bU B_0.out) hb); replace HB := Y0.mk (Y3 (hU HB.out) hb); (try clear hb); (try clear hb2); (try clear hk); (try clear hi)) | ((with_reducible refine Ye (N := 5) rfl ?_); (with_reducible refine Yc (f := 51) rfl ?_); refine YO (some 5) rfl rfl Try.func51 (by kernel_rfl) rfl #[.int .i64 2, .int .i64 2] rfl (by (try simp only [List.map_toArray, List.map_cons, List.map_nil]); first | done | (go_simp; done) | rfl | (simp only [List.length_drop, List.length_take]; rfl)) ?_; (with_reducible refine (Yd.calls 2 2 t186 t187 _ A5.out).mono ?_); rintro e w18 ⟨rfl, hb⟩; refine ⟨_, rfl, ?_⟩; replace B_0 := Y0.mk (Y1 (bU B_0.out) hb); replace HB := Y0.mk (Y3 (hU HB.out) hb); (try clear hb); (try clear hb2); (try clear hk); (try clear hi)) | ((with_reducible refine Ye (N := 6) rfl ?_); (with_reducible refine Yc (f := 51) rfl ?_); refine YO (some 6) rfl rfl Try.func51 (by kernel_rfl) rfl #[.int .i64 2, .int .i64 2] rfl (by (try simp only [List.map_toArray, List.map_cons, List.map_nil]); first | done | (go_simp; done) | rfl | (simp only [List.length_drop, List.length_take]; rfl)) ?_; (with_reducible refine (Yd.calls 2 2 t188 t189 _ A6.out).mono ?_); rintro e w19 ⟨rfl, hb⟩; refine ⟨_, rfl, ?_⟩; replace B_0 := Y0.mk (Y1 (bU B_0.out) hb); replace HB := Y0.mk (Y3 (hU HB.out) hb); (try clear hb); (try clear hb2); (try clear hk); (try clear hi)) | ((with_reducible refine Ye (N := 7) rfl ?_); (with_reducible refine Yc (f := 53) rfl ?_); refine YO (some 7) rfl rfl Try.func53 (by kernel_rfl) rfl #[] rfl (by (try simp only [List.map_toArray, List.map_cons, List.map_nil]); first | done | (go_simp; done) | rfl | (simp only [List.length_drop, List.length_take]; rfl)) ?_; (with_reducible refine (Y10.calls  t190 t191 t192 t193 t194 t195 t196 _ A7.out).mono ?_); rintro e w20 ⟨rfl, hb⟩; refine ⟨_, rfl, ?_⟩; replace B_0 := Y0.mk (Y1 (bU B_0.out) hb); replace HB := Y0.mk (Y3 (hU HB.out) hb); (try clear hb); (try clear hb2); (try clear hk); (try clear hi)) | ((with_reducible refine Ye (N := 8) rfl ?_); (with_reducible refine Yc (f := 52) rfl ?_); refine YO (some 8) rfl rfl Try.func52 (by kernel_rfl) rfl #[.agg #[.int .i64 t186, .int .i64 t187], .agg #[.int .i64 t188, .int .i64 t189], .agg #[.int .i64 t190, .int .i64 t191, .int .i64 t192, .int .i64 t193, .int .i64 t194, .int .i64 t195, .int .i64 t196]] rfl (by (try simp only [List.map_toArray, List.map_cons, List.map_nil]); first | done | (go_simp; done) | rfl | (simp only [List.length_drop, List.length_take]; rfl)) ?_; (with_reducible refine (Yr.calls t186 t187 t188 t189 t190 t191 t192 t193 t194 t195 t196 t_w t_v t_c t_r t_t t_2 t203 t_a t_j t_6 t_k t_z t_e _ A8.out).mono ?_); rintro e w21 ⟨rfl, hb⟩; refine ⟨_, rfl, ?_⟩; replace B_0 := Y0.mk (Y1 (bU B_0.out) hb); replace HB := Y0.mk (Y3 (hU HB.out) hb); (try clear hb); (try clear hb2); (try clear hk); (try clear hi)) | ((with_reducible refine Ye (N := 9) rfl ?_); (with_reducible refine Yc (f := 51) rfl ?_); refine YO (some 9) rfl rfl Try.func51 (by kernel_rfl) rfl #[.int .i64 3, .int .i64 1] rfl (by (try simp only [List.map_toArray, List.map_cons, List.map_nil]); first | done | (go_simp; done) | rfl | (simp only [List.length_drop, List.length_take]; rfl)) ?_; (with_reducible refine (Yd.calls 3 1 t210 t211 _ A9.out).mono ?_); rintro e w22 ⟨rfl, hb⟩; refine ⟨_, rfl, ?_⟩; replace B_0 := Y0.mk (Y1 (bU B_0.out) hb); replace HB := Y0.mk (Y3 (hU HB.out) hb); (try clear hb); (try clear hb2); (try clear hk); (try clear hi)) | ((with_reducible refine Ye (N := 10) rfl ?_); (with_reducible refine Yc (f := 51) rfl ?_); refine YO (some 10) rfl rfl Try.func51 (by kernel_rfl) rfl #[.int .i64 2, .int .i64 2] rfl (by (try simp only [List.map_toArray, List.map_cons, List.map_nil]); first | done | (go_simp; done) | rfl | (simp only [List.length_drop, List.length_take]; rfl)) ?_; (with_reducible refine (Yd.calls 2 2 t212 t213 _ A10.out).mono ?_); rintro e w23 ⟨rfl, hb⟩; refine ⟨_, rfl, ?_⟩; replace B_0 := Y0.mk (Y1 (bU B_0.out) hb); replace HB := Y0.mk (Y3 (hU HB.out) hb); (try clear hb); (try clear hb2); (try clear hk); (try clear hi)) | ((with_reducible refine Ye (N := 11) rfl ?_); (with_reducible refine Yc (f := 50) rfl ?_); refine YO (some 11) rfl rfl Try.func50 (by kernel_rfl) rfl #[] rfl (by (try simp only [List.map_toArray, List.map_cons, List.map_nil]); first | done | (go_simp; done) | rfl | (simp only [List.length_drop, List.length_take]; rfl)) ?_; (with_reducible refine (YH.calls  t214 t215 t216 t217 t218 t219 t220 _ A11.out).mono ?_); rintro e w24 ⟨rfl, hb⟩; refine ⟨_, rfl, ?_⟩; replace B_0 := Y0.mk (Y1 (bU B_0.out) hb); replace HB := Y0.mk (Y3 (hU HB.out) hb); (try clear hb); (try clear hb2); (try clear hk); (try clear hi)) | ((with_reducible refine Ye (N := 12) rfl ?_); (with_reducible refine Yc (f := 52) rfl ?_); refine YO (some 12) rfl rfl Try.func52 (by kernel_rfl) rfl #[.agg #[.int .i64 t210, .int .i64 t211], .agg #[.int .i64 t212, .int .i64 t213], .agg #[.int .i64 t214, .int .i64 t215, .int .i64 t216, .int .i64 t217, .int .i64 t218, .int .i64 t219, .int .i64 t220]] rfl (by (try simp only [List.map_toArray, List.map_cons, List.map_nil]); first | done | (go_simp; done) | rfl | (simp only [List.length_drop, List.length_take]; rfl)) ?_; (with_reducible refine (Yr.calls t210 t211 t212 t213 t214 t215 t216 t217 t218 t219 t220 t_p t222 t_h t_8 t_q t_9 t_3 t_4 t_f t_5 t_y t_0 t_x _ A12.out).mono ?_); rintro e w25 ⟨rfl, hb⟩; refine ⟨_, rfl, ?_⟩; replace B_0 := Y0.mk (Y1 (bU B_0.out) hb); replace HB := Y0.mk (Y3 (hU HB.out) hb); (try clear hb); (try clear hb2); (try clear hk); (try clear hi)) | ((with_reducible refine Ye (N := 13) rfl ?_); refine Kd.R_lit k30 _ 30 ?hg (N := 13) ?hd (xs := ([(⟨(⟨t_o, t_1⟩ : S26), t_n, (⟨t_l, t_u⟩ : S26), t_i, (⟨t_m, t_7, t_g, t_b, t183, t_d, t_s⟩ : S28)⟩ : S30), (⟨(⟨t_w, t_v⟩ : S26), t_c, (⟨t_r, t_t⟩ : S26), t_2, (⟨t203, t_a, t_j, t_6, t_k, t_z, t_e⟩ : S28)⟩ : S30), (⟨(⟨t_p, t222⟩ : S26), t_h, (⟨t_8, t_q⟩ : S26), t_9, (⟨t_3, t_4, t_f, t_5, t_y, t_0, t_x⟩ : S28)⟩ : S30)] : List (S30))) (inner := [.int .i64 t_o, .int .i64 t_1, .int .i64 t_n, .int .i64 t_l, .int .i64 t_u, .bool t_i, .int .i64 t_m, .int .i64 t_7, .int .i64 t_g, .int .i64 t_b, .int .i64 t183, .int .i64 t_d, .int .i64 t_s, .int .i64 t_w, .int .i64 t_v, .int .i64 t_c, .int .i64 t_r, .int .i64 t_t, .bool t_2, .int .i64 t203, .int .i64 t_a, .int .i64 t_j, .int .i64 t_6, .int .i64 t_k, .int .i64 t_z, .int .i64 t_e, .int .i64 t_p, .int .i64 t222, .int .i64 t_h, .int .i64 t_8, .int .i64 t_q, .bool t_9, .int .i64 t_3, .int .i64 t_4, .int .i64 t_f, .int .i64 t_5, .int .i64 t_y, .int .i64 t_0, .int .i64 t_x]) (ok := fun _ => True) (okp := fun _ => True) ?hr ?hp (fun _ hk => hk) trivial (Below.refl _ _) (Nat.le_refl _) (by simp) ?_; (case hd => rfl); (case hg => rfl); (case hr => first | (go_simp; done) | (go_simp; rfl)); (case hp => exact (Reps.front (show Kd.M k30 _ _ _ (⟨(⟨t_o, t_1⟩ : S26), t_n, (⟨t_l, t_u⟩ : S26), t_i, (⟨t_m, t_7, t_g, t_b, t183, t_d, t_s⟩ : S28)⟩ : S30) [.int .i64 t_o, .int .i64 t_1, .int .i64 t_n, .int .i64 t_l, .int .i64 t_u, .bool t_i, .int .i64 t_m, .int .i64 t_7, .int .i64 t_g, .int .i64 t_b, .int .i64 t183, .int .i64 t_d, .int .i64 t_s] from (Y1N _ _ _ (⟨(⟨t_o, t_1⟩ : S26), t_n, (⟨t_l, t_u⟩ : S26), t_i, (⟨t_m, t_7, t_g, t_b, t183, t_d, t_s⟩ : S28)⟩ : S30) )) rfl (Reps.front (show Kd.M k30 _ _ _ (⟨(⟨t_w, t_v⟩ : S26), t_c, (⟨t_r, t_t⟩ : S26), t_2, (⟨t203, t_a, t_j, t_6, t_k, t_z, t_e⟩ : S28)⟩ : S30) [.int .i64 t_w, .int .i64 t_v, .int .i64 t_c, .int .i64 t_r, .int .i64 t_t, .bool t_2, .int .i64 t203, .int .i64 t_a, .int .i64 t_j, .int .i64 t_6, .int .i64 t_k, .int .i64 t_z, .int .i64 t_e] from (Y1N _ _ _ (⟨(⟨t_w, t_v⟩ : S26), t_c, (⟨t_r, t_t⟩ : S26), t_2, (⟨t203, t_a, t_j, t_6, t_k, t_z, t_e⟩ : S28)⟩ : S30) )) rfl (Reps.front (show Kd.M k30 _ _ _ (⟨(⟨t_p, t222⟩ : S26), t_h, (⟨t_8, t_q⟩ : S26), t_9, (⟨t_3, t_4, t_f, t_5, t_y, t_0, t_x⟩ : S28)⟩ : S30) [.int .i64 t_p, .int .i64 t222, .int .i64 t_h, .int .i64 t_8, .int .i64 t_q, .bool t_9, .int .i64 t_3, .int .i64 t_4, .int .i64 t_f, .int .i64 t_5, .int .i64 t_y, .int .i64 t_0, .int .i64 t_x] from (Y1N _ _ _ (⟨(⟨t_p, t222⟩ : S26), t_h, (⟨t_8, t_q⟩ : S26), t_9, (⟨t_3, t_4, t_f, t_5, t_y, t_0, t_x⟩ : S28)⟩ : S30) )) rfl (Reps.none _ _) rfl) rfl) rfl)); intro v_0 w26 ho27 hb hg_ hnew_; clear hg_ hnew_; (first | rw [← Ny234.out] at ho27 | (simp only [Int.reduceToNat] at ho27; rw [← Ny234.out] at ho27)); have n0_ := Y0.mk (Kd.R_lower ho27 (Yf (hU HB.out))); have n1_ := Y0.mk (Y1 (bU B_0.out) hb); have n2_ := Y0.mk (Y3 (hU HB.out) hb); clear B_0; clear HB; have O_0 := n0_; have B_0 := n1_; have HB := n2_; clear n0_ n1_ n2_; clear hb ho27; obtain ⟨Ao28, co28, eo28⟩ := Kd.R_slice O_0.out; subst eo28; have z_4 := Y2 B_0.out; have f_6 := Y7 B_0.out))
 refine bodyPost_ret (results_cell_row rfl _ _ g_0 24 #[.int .i64 1, .slice Ao28 y234.length co28] (0, 0) _ rfl (by (with_reducible repeat (first | refine Y5 ?_ _ | refine Y6 ?_ | refine Y4 ?_ _)); refine Ym (cs := #[.int .i64 1, .slice none 0 0]) ?_ 1 _ rfl; (with_reducible repeat (first | refine Y5 ?_ _ | refine Y6 ?_ | refine Y4 ?_ _)); refine Ym (cs := #[.int .i64 0, .slice none 0 0]) ?_ 0 _ rfl; (with_reducible repeat (first | refine Y5 ?_ _ | refine Y6 ?_ | refine Y4 ?_ _)); exact B_0.out) Try.underlying24 rfl (by kernel_rfl)) rfl ?_
 exact ⟨_, reT, by (with_reducible repeat (first | apply Kd.R_alloc | apply Kd.R_drewN | apply Kd.R_drew)); exact Kd.R_mono (Kd.R_far (p := ⟨g_0, 1, none⟩) (Kd.R_far (p := ⟨g_0, 0, none⟩) (Kd.R_types O_0.out B_0.out (by decide)) (fun _ hk => hk.2) (.int .i64 1)) (fun _ hk => hk.2) (.slice Ao28 y234.length co28)) (fun _ hk => trivial), hU HB.out⟩
def Y19.f (a0_0 : Int) (a0_1 : Int) : Option (Bool) := if a0_0 ≥ 1 then (if a0_0 ≤ 1000000 then (if a0_1 ≥ 1 then (some (decide (a0_1 ≤ 64))) else (some false)) else (some false)) else (some false)
set_option maxHeartbeats 8000000 in
set_option maxRecDepth 100000 in
theorem Y19.calls (a0_0 : Int) (a0_1 : Int) (r : Bool) (w : World) (h : Y19.f a0_0 a0_1 = some r) :
  Calls Try.prog 93 #[.agg #[.int .i64 a0_0, .int .i64 a0_1]] w fun e w' => e = .returned (.bool r) ∧ Below w.heap.size w w' := by
 have hu26 := Try.underlying26
 have HB := Y0.mk (Below.refl w.heap.size w)
 have H : (if a0_0 ≥ 1 then (if a0_0 ≤ 1000000 then (if a0_1 ≥ 1 then (some (decide (a0_1 ≤ 64))) else (some false)) else (some false)) else (some false)) = some r := h
 clear h
 by_cases c2 : a0_0 ≥ 1
 ·rw [if_pos c2] at H
  have c2b0 := decide_eq_true c2
  clear c2
  by_cases c3 : a0_0 ≤ 1000000
  ·rw [if_pos c3] at H
   have c3b0 := decide_eq_true c3
   clear c3
   by_cases c4 : a0_1 ≥ 1
   ·rw [if_pos c4] at H
    have c4b0 := decide_eq_true c4
    clear c4
    obtain rfl := Option.some.inj H
    go_enter Try.func93, Try.ntmps93
    go_wp2_with (first | ((with_reducible refine Ye (N := 1) rfl ?_); refine Yh ?hg (N := 1) ?hd (cs := #[.int .i64 a0_0, .int .i64 a0_1]) (t := 26) ?hr ?_; (case hd => rfl); (case hg => rfl); (case hr => first | (go_simp; done) | (go_simp; rfl)); intro g_0 hg w5 hbox hb; have n0_ := Y0.mk (Y3 (hU HB.out) hb); have n1_ := Y0.mk (hbox); have n2_ := gE hg HB; have n3_ := gE hg HB; clear HB; have HB := n0_; have B_0 := n1_; have W_0 := n2_; have G_0 := n3_; clear n0_ n1_ n2_ n3_; clear hb hbox hg; have z_3 := Y2 B_0.out; have f_1 := Y7 B_0.out))
    go_ret
    exact ⟨reT, hU HB.out⟩
   ·rw [if_neg c4] at H
    have c4b0 := decide_eq_false c4
    clear c4
    obtain rfl := Option.some.inj H
    go_enter Try.func93, Try.ntmps93
    go_wp2_with (first | ((with_reducible refine Ye (N := 1) rfl ?_); refine Yh ?hg (N := 1) ?hd (cs := #[.int .i64 a0_0, .int .i64 a0_1]) (t := 26) ?hr ?_; (case hd => rfl); (case hg => rfl); (case hr => first | (go_simp; done) | (go_simp; rfl)); intro g_0 hg w7 hbox hb; have n0_ := Y0.mk (Y3 (hU HB.out) hb); have n1_ := Y0.mk (hbox); have n2_ := gE hg HB; have n3_ := gE hg HB; clear HB; have HB := n0_; have B_0 := n1_; have W_0 := n2_; have G_0 := n3_; clear n0_ n1_ n2_ n3_; clear hb hbox hg; have z_2 := Y2 B_0.out; have f_3 := Y7 B_0.out))
    go_ret
    exact ⟨reT, hU HB.out⟩
  ·rw [if_neg c3] at H
   have c3b0 := decide_eq_false c3
   clear c3
   obtain rfl := Option.some.inj H
   go_enter Try.func93, Try.ntmps93
   go_wp2_with (first | ((with_reducible refine Ye (N := 1) rfl ?_); refine Yh ?hg (N := 1) ?hd (cs := #[.int .i64 a0_0, .int .i64 a0_1]) (t := 26) ?hr ?_; (case hd => rfl); (case hg => rfl); (case hr => first | (go_simp; done) | (go_simp; rfl)); intro g_0 hg w9 hbox hb; have n0_ := Y0.mk (Y3 (hU HB.out) hb); have n1_ := Y0.mk (hbox); have n2_ := gE hg HB; have n3_ := gE hg HB; clear HB; have HB := n0_; have B_0 := n1_; have W_0 := n2_; have G_0 := n3_; clear n0_ n1_ n2_ n3_; clear hb hbox hg; have z_0 := Y2 B_0.out; have f_0 := Y7 B_0.out))
   go_ret
   exact ⟨reT, hU HB.out⟩
 ·rw [if_neg c2] at H
  have c2b0 := decide_eq_false c2
  clear c2
  obtain rfl := Option.some.inj H
  go_enter Try.func93, Try.ntmps93
  go_wp2_with (first | ((with_reducible refine Ye (N := 1) rfl ?_); refine Yh ?hg (N := 1) ?hd (cs := #[.int .i64 a0_0, .int .i64 a0_1]) (t := 26) ?hr ?_; (case hd => rfl); (case hg => rfl); (case hr => first | (go_simp; done) | (go_simp; rfl)); intro g_0 hg w11 hbox hb; have n0_ := Y0.mk (Y3 (hU HB.out) hb); have n1_ := Y0.mk (hbox); have n2_ := gE hg HB; have n3_ := gE hg HB; clear HB; have HB := n0_; have B_0 := n1_; have W_0 := n2_; have G_0 := n3_; clear n0_ n1_ n2_ n3_; clear hb hbox hg; have z_1 := Y2 B_0.out; have f_2 := Y7 B_0.out))
  go_ret
  exact ⟨reT, hU HB.out⟩
def aim_known.f (a0 : Int) : Option (Bool) := if a0 ≥ 0 then (some (decide (a0 < 6))) else (some false)
set_option maxHeartbeats 8000000 in
set_option maxRecDepth 100000 in
theorem aim_known.calls (a0 : Int) (r : Bool) (w : World) (h : aim_known.f a0 = some r) :
  Calls Try.prog 168 #[.int .i64 a0] w fun e w' => e = .returned (.bool r) ∧ Drawn0 w w' := by
 have H : (if a0 ≥ 0 then (some (decide (a0 < 6))) else (some false)) = some r := h
 clear h
 by_cases c2 : a0 ≥ 0
 ·rw [if_pos c2] at H
  have c2b0 := decide_eq_true c2
  clear c2
  obtain rfl := Option.some.inj H
  go_enter Try.func168, Try.ntmps168
  go_wp2
  go_ret
  exact ⟨reS, dS⟩
 ·rw [if_neg c2] at H
  have c2b0 := decide_eq_false c2
  clear c2
  obtain rfl := Option.some.inj H
  go_enter Try.func168, Try.ntmps168
  go_wp2
  go_ret
  exact ⟨reS, dS⟩
def dir_Eighth.f (a0 : Int) : Option (Int × Int) := (dir_valid.f a0).bind fun t_0 => (if t_0 = true then (if a0 = 0 then (some (0, 18)) else (some (wrap64 (a0 - 1), 0))) else (some (0, 1)))
set_option maxHeartbeats 8000000 in
set_option maxRecDepth 100000 in
theorem dir_Eighth.calls (a0 : Int) (r1 : Int) (r2 : Int) (w : World) (h : dir_Eighth.f a0 = some (r1, r2)) :
  Calls Try.prog 169 #[.int .i64 a0] w fun e w' => e = .returned (.tuple #[.int .i64 r1, .int .i64 r2]) ∧ Drawn0 w w' := by
 have H : ((dir_valid.f a0).bind fun t_0 => (if t_0 = true then (if a0 = 0 then (some (0, 18)) else (some (wrap64 (a0 - 1), 0))) else (some (0, 1)))) = some (r1, r2) := h
 clear h
 obtain ⟨t_0, A20, H⟩ := bS H
 replace H : (if t_0 = true then (if a0 = 0 then (some (0, 18)) else (some (wrap64 (a0 - 1), 0))) else (some (0, 1))) = some (r1, r2) := H
 have A2 := Y0.mk A20
 clear A20
 by_cases c3 : t_0 = true
 ·subst c3
  have H1 : (if a0 = 0 then (some (0, 18)) else (some (wrap64 (a0 - 1), 0))) = some (r1, r2) := by rw [if_pos rfl] at H; exact H
  clear H
  have H := H1
  clear H1
  by_cases c4 : a0 = 0
  ·rw [if_pos c4] at H
   have c4b0 := bqT c4
   have c4b1 := bnF c4
   clear c4
   simp only [Option.some.injEq, Prod.mk.injEq] at H
   obtain ⟨rfl, rfl⟩ := H
   go_enter Try.func169, Try.ntmps169
   go_wp2_with (first | ((with_reducible refine Yc (f := 167) rfl ?_); refine goesA (some 5) Try.func167 #[.int .i64 a0] ?_; (with_reducible refine (dir_valid.calls a0 true _ A2.out).mono ?_); rintro e w' ⟨rfl, ⟨nd, rfl⟩⟩; refine ⟨_, rfl, ?_⟩))
   go_ret2
   exact ⟨reS, dS⟩
  ·rw [if_neg c4] at H
   have c4b0 := bqF c4
   have c4b1 := bnT c4
   simp only [Option.some.injEq, Prod.mk.injEq] at H
   obtain ⟨rfl, rfl⟩ := H
   go_enter Try.func169, Try.ntmps169
   go_wp2_with (first | ((with_reducible refine Yc (f := 167) rfl ?_); refine goesA (some 5) Try.func167 #[.int .i64 a0] ?_; (with_reducible refine (dir_valid.calls a0 true _ A2.out).mono ?_); rintro e w' ⟨rfl, ⟨nd, rfl⟩⟩; refine ⟨_, rfl, ?_⟩))
   go_ret2
   exact ⟨reS, dS⟩
 ·replace c3 := Bool.eq_false_iff.mpr c3
  subst c3
  have H1 : (some (0, 1)) = some (r1, r2) := by rw [if_neg (show ¬ (false = true) by decide)] at H; exact H
  clear H
  have H := H1
  clear H1
  simp only [Option.some.injEq, Prod.mk.injEq] at H
  obtain ⟨rfl, rfl⟩ := H
  go_enter Try.func169, Try.ntmps169
  go_wp2_with (first | ((with_reducible refine Yc (f := 167) rfl ?_); refine goesA (some 5) Try.func167 #[.int .i64 a0] ?_; (with_reducible refine (dir_valid.calls a0 false _ A2.out).mono ?_); rintro e w' ⟨rfl, ⟨nd, rfl⟩⟩; refine ⟨_, rfl, ?_⟩))
  go_ret2
  exact ⟨reS, dS⟩
end Go.Proofs.Yteopkkoblbmggaa.P
end
section
namespace Go.Proofs.Yteopkkoblbmggaa.P
open Go.RowKit Go.Proofs.YteopkkoblbmggaaW.PrintWords Go.Proofs.YteopkkoblbmggaaW.PrintLast Go.Proofs.YteopkkoblbmggaaW.PrintMore
set_option linter.unusedVariables false
set_option linter.unusedSimpArgs false
def ofP (a d l b : Int) : Int × Int × Int × Int :=
  if 0 ≤ a ∧ a < 6 then
    if 0 ≤ d ∧ d ≤ 8 ∧ -1 ≤ l ∧ l ≤ 1 then
      if b < 0 ∨ 6 < b then (0, 0, 0, 1)
      else if d = 0 then (if l = 0 ∨ (l = -1 ∧ (a = 2 ∨ a = 5)) then (0, 0, 0, 18) else (0, wrap64 (64 * l), b, 0))
      else (wrap64 (32 * wrap64 (d - 1)), wrap64 (32 * l), b, 0)
    else (0, 0, 0, 1)
  else (0, 0, 0, 9)
def knB (a : Int) : Bool := decide (0 ≤ a ∧ a < 6)
def aim_Of.f (a d l b : Int) : Option (Int × Int × Int × Int) := some (ofP a d l b)
theorem aim_Of.known_eq (a : Int) : aim_known.f a = some (knB a) := by
  unfold aim_known.f knB
  by_cases h : 0 ≤ a <;> simp [h]
theorem aim_Of.dcheck_eq (d l : Int) : dir_Check.f d l = some (if 0 ≤ d ∧ d ≤ 8 ∧ -1 ≤ l ∧ l ≤ 1 then 0 else 1) := by
  unfold dir_Check.f dir_valid.f
  repeat' split
  all_goals (simp at *; try omega)
theorem aim_Of.eighth_eq (d : Int) (h : 0 ≤ d ∧ d ≤ 8) (h0 : d ≠ 0) : dir_Eighth.f d = some (wrap64 (d - 1), 0) := by
  unfold dir_Eighth.f dir_valid.f
  simp [h.1, h.2, h0]
set_option maxHeartbeats 1000000 in
set_option maxRecDepth 100000 in
theorem aim_Of.calls (a0 : Int) (a1_0 : Int) (a1_1 : Int) (a1_2 : Int) (r1 : Int) (r2 : Int) (r3 : Int) (r4 : Int) (w : World) (h : aim_Of.f a0 a1_0 a1_1 a1_2 = some (r1, r2, r3, r4)) :
    Calls Try.prog 143 #[.int .i64 a0, .agg #[.int .i64 a1_0, .int .i64 a1_1, .int .i64 a1_2]] w fun e w' => e = .returned (.tuple #[.agg #[.int .i64 r1, .int .i64 r2, .int .i64 r3], .int .i64 r4]) ∧ Below w.heap.size w w' := by
  have hu44 := Try.underlying149
  have hu32 := Try.underlying153
  have H := Y0.mk (Option.some.inj h).symm
  clear h
  obtain ⟨c, hc⟩ : ∃ c : Int, c = if 0 ≤ a1_0 ∧ a1_0 ≤ 8 ∧ -1 ≤ a1_1 ∧ a1_1 ≤ 1 then 0 else 1 := ⟨_, rfl⟩
  have HC := Y0.mk hc
  have HD := Y0.mk (hc ▸ aim_Of.dcheck_eq a1_0 a1_1)
  clear hc
  go_enter Try.func143, Try.ntmps143
  go_wp2_with (first | (go_at_call 168; refine (aim_known.calls _ (knB _) _ (aim_Of.known_eq _)).mono ?_; rintro e w' ⟨rfl, ⟨nd, rfl⟩⟩) | (go_at_call 142; refine (dir_Check.calls _ _ c _ HD.out).mono ?_; rintro e w' ⟨rfl, ⟨nd, rfl⟩⟩) | (go_at_call 169; refine (dir_Eighth.calls _ (wrap64 (a1_0 - 1)) 0 _ (aim_Of.eighth_eq _ (by have hc := HC.out; go_light; split at hc <;> simp_all) (by go_light; simp_all))).mono ?_; rintro e w' ⟨rfl, ⟨nd, rfl⟩⟩))
  all_goals (refine bodyPost_ret (by simp [results, Try.results143, go_sem]; rfl) rfl ⟨?_, by repeat (first | exact Below.refl _ _ | apply Ys | apply Y1k | apply Yy | refine Y2k ?_ (by simp))⟩; go_light)
  all_goals
    have h := H.out
    have hc := HC.out
    clear H HC HD hu44 hu32
    unfold ofP at h
    unfold knB at *
    (repeat' split at h) <;> (repeat' split at hc) <;> first | (simp_all; done) | (simp_all [wrap64]; done) | (exfalso; simp_all; omega) | (exfalso; simp at *; omega)
end Go.Proofs.Yteopkkoblbmggaa.P
end

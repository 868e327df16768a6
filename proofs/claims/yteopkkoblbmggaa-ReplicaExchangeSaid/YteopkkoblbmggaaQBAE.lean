/- Texts of this claim in one: VP21, VP4; no condition. -/
import Derived.Test.YteopkkoblbmggaaQBAD
section
namespace Go.Proofs.Yteopkkoblbmggaa.P
open Go.RowKit Go.Proofs.YteopkkoblbmggaaW.PrintWords Go.Proofs.YteopkkoblbmggaaW.PrintLast Go.Proofs.YteopkkoblbmggaaW.PrintMore
attribute [local go_sem] YR YT Y11 Y12 YL YM YS YU
set_option linter.unusedVariables false
set_option linter.unusedSimpArgs false
def Yw.f  : Option (Int × Int × Int × Int × Int × Int × Int) := some (2, 0, 0, 24, 0, 0, 0)
set_option maxHeartbeats 8000000 in
set_option maxRecDepth 100000 in
theorem Yw.calls  (r1 : Int) (r2 : Int) (r3 : Int) (r4 : Int) (r5 : Int) (r6 : Int) (r7 : Int) (w : World) (h : Yw.f  = some (r1, r2, r3, r4, r5, r6, r7)) :
  Calls Try.prog 49 #[] w fun e w' => e = .returned (.agg #[.int .i64 r1, .int .i64 r2, .int .i64 r3, .int .i64 r4, .int .i64 r5, .int .i64 r6, .int .i64 r7]) ∧ Below w.heap.size w w' := by
 have hu28 := Try.underlying28
 have HB := Y0.mk (Below.refl w.heap.size w)
 have H : (some (2, 0, 0, 24, 0, 0, 0)) = some (r1, r2, r3, r4, r5, r6, r7) := h
 clear h
 simp only [Option.some.injEq, Prod.mk.injEq] at H
 obtain ⟨rfl, rfl, rfl, rfl, rfl, rfl, rfl⟩ := H
 go_enter Try.func49, Try.ntmps49
 go_wp2_with (first | ((with_reducible refine Ye (N := 0) rfl ?_); refine Yf ?hg (N := 0) ?hd (cs := #[.int .i64 0, .int .i64 0, .int .i64 0, .int .i64 0, .int .i64 0, .int .i64 0, .int .i64 0]) (t := 28) ?hr ?_; (case hd => rfl); (case hg => rfl); (case hr => first | (go_simp; done) | (go_simp; rfl)); intro g_5 hg w1 hbox hb; have n0_ := Y0.mk (Y5 (hU HB.out) hb); have n1_ := Y0.mk (hbox); have n2_ := gE hg HB; have n3_ := gE hg HB; clear HB; have HB := n0_; have B_8 := n1_; have W_1 := n2_; have G_7 := n3_; clear n0_ n1_ n2_ n3_; clear hb hbox hg; have z_0 := Y2 B_8.out; have f_0 := Y4 B_8.out))
 refine bodyPost_ret (results_cell_row rfl _ _ g_5 28 #[.int .i64 2, .int .i64 0, .int .i64 0, .int .i64 24, .int .i64 0, .int .i64 0, .int .i64 0] (0, 0) _ rfl (by (with_reducible repeat (first | refine Y8 ?_ _ | refine Y7 ?_ | refine Y6 ?_ _)); apply Yn; (iterate 6 ((with_reducible repeat (first | refine Y8 ?_ _ | refine Y7 ?_ | refine Y6 ?_ _)); apply Y1m)); (with_reducible repeat (first | refine Y8 ?_ _ | refine Y7 ?_ | refine Y6 ?_ _)); exact B_8.out; simp only [List.setIfInBounds_toArray, List.set_cons_zero, List.set_cons_succ]) Try.underlying28 rfl (by kernel_rfl)) rfl ?_
 exact ⟨reT, hU HB.out⟩
def YA.f  : Option (Int × Int × Int × Int × Int × Int × Int) := some (1, 1, 0, 24, 1, 0, 0)
set_option maxHeartbeats 8000000 in
set_option maxRecDepth 100000 in
theorem YA.calls  (r1 : Int) (r2 : Int) (r3 : Int) (r4 : Int) (r5 : Int) (r6 : Int) (r7 : Int) (w : World) (h : YA.f  = some (r1, r2, r3, r4, r5, r6, r7)) :
  Calls Try.prog 50 #[] w fun e w' => e = .returned (.agg #[.int .i64 r1, .int .i64 r2, .int .i64 r3, .int .i64 r4, .int .i64 r5, .int .i64 r6, .int .i64 r7]) ∧ Below w.heap.size w w' := by
 have hu28 := Try.underlying28
 have HB := Y0.mk (Below.refl w.heap.size w)
 have H : (some (1, 1, 0, 24, 1, 0, 0)) = some (r1, r2, r3, r4, r5, r6, r7) := h
 clear h
 simp only [Option.some.injEq, Prod.mk.injEq] at H
 obtain ⟨rfl, rfl, rfl, rfl, rfl, rfl, rfl⟩ := H
 go_enter Try.func50, Try.ntmps50
 go_wp2_with (first | ((with_reducible refine Ye (N := 0) rfl ?_); refine Yf ?hg (N := 0) ?hd (cs := #[.int .i64 0, .int .i64 0, .int .i64 0, .int .i64 0, .int .i64 0, .int .i64 0, .int .i64 0]) (t := 28) ?hr ?_; (case hd => rfl); (case hg => rfl); (case hr => first | (go_simp; done) | (go_simp; rfl)); intro g_1 hg w1 hbox hb; have n0_ := Y0.mk (Y5 (hU HB.out) hb); have n1_ := Y0.mk (hbox); have n2_ := gE hg HB; have n3_ := gE hg HB; clear HB; have HB := n0_; have B_6 := n1_; have W_5 := n2_; have G_5 := n3_; clear n0_ n1_ n2_ n3_; clear hb hbox hg; have z_0 := Y2 B_6.out; have f_0 := Y4 B_6.out))
 refine bodyPost_ret (results_cell_row rfl _ _ g_1 28 #[.int .i64 1, .int .i64 1, .int .i64 0, .int .i64 24, .int .i64 1, .int .i64 0, .int .i64 0] (0, 0) _ rfl (by (with_reducible repeat (first | refine Y8 ?_ _ | refine Y7 ?_ | refine Y6 ?_ _)); apply Yn; (iterate 6 ((with_reducible repeat (first | refine Y8 ?_ _ | refine Y7 ?_ | refine Y6 ?_ _)); apply Y1m)); (with_reducible repeat (first | refine Y8 ?_ _ | refine Y7 ?_ | refine Y6 ?_ _)); exact B_6.out; simp only [List.setIfInBounds_toArray, List.set_cons_zero, List.set_cons_succ]) Try.underlying28 rfl (by kernel_rfl)) rfl ?_
 exact ⟨reT, hU HB.out⟩
def Yb.f (a0 : Int) (a1 : Int) : Option (Int × Int) := some (a0, a1)
set_option maxHeartbeats 8000000 in
set_option maxRecDepth 100000 in
theorem Yb.calls (a0 : Int) (a1 : Int) (r1 : Int) (r2 : Int) (w : World) (h : Yb.f a0 a1 = some (r1, r2)) :
  Calls Try.prog 51 #[.int .i64 a0, .int .i64 a1] w fun e w' => e = .returned (.agg #[.int .i64 r1, .int .i64 r2]) ∧ Below w.heap.size w w' := by
 have hu26 := Try.underlying26
 have HB := Y0.mk (Below.refl w.heap.size w)
 have H : (some (a0, a1)) = some (r1, r2) := h
 clear h
 simp only [Option.some.injEq, Prod.mk.injEq] at H
 obtain ⟨rfl, rfl⟩ := H
 go_enter Try.func51, Try.ntmps51
 go_wp2_with (first | ((with_reducible refine Ye (N := 4) rfl ?_); refine Yf ?hg (N := 4) ?hd (cs := #[.int .i64 0, .int .i64 0]) (t := 26) ?hr ?_; (case hd => rfl); (case hg => rfl); (case hr => first | (go_simp; done) | (go_simp; rfl)); intro g_2 hg w3 hbox hb; have n0_ := Y0.mk (Y5 (hU HB.out) hb); have n1_ := Y0.mk (hbox); have n2_ := gE hg HB; have n3_ := gE hg HB; clear HB; have HB := n0_; have B_5 := n1_; have W_4 := n2_; have G_6 := n3_; clear n0_ n1_ n2_ n3_; clear hb hbox hg; have z_5 := Y2 B_5.out; have f_5 := Y4 B_5.out))
 refine bodyPost_ret (results_cell_row rfl _ _ g_2 26 #[.int .i64 a0, .int .i64 a1] (0, 0) _ rfl (by (with_reducible repeat (first | refine Y8 ?_ _ | refine Y7 ?_ | refine Y6 ?_ _)); refine Yn (cs := #[.int .i64 a0, .int .i64 0]) ?_ 1 _ rfl; (with_reducible repeat (first | refine Y8 ?_ _ | refine Y7 ?_ | refine Y6 ?_ _)); refine Yn (cs := #[.int .i64 0, .int .i64 0]) ?_ 0 _ rfl; (with_reducible repeat (first | refine Y8 ?_ _ | refine Y7 ?_ | refine Y6 ?_ _)); exact B_5.out) Try.underlying26 rfl (by kernel_rfl)) rfl ?_
 exact ⟨reT, hU HB.out⟩
def Yp.f (a0_0 : Int) (a0_1 : Int) (a1_0 : Int) (a1_1 : Int) (a2_0 : Int) (a2_1 : Int) (a2_2 : Int) (a2_3 : Int) (a2_4 : Int) (a2_5 : Int) (a2_6 : Int) : Option (Int × Int × Int × Int × Int × Bool × Int × Int × Int × Int × Int × Int × Int) := some (a0_0, a0_1, 0, a1_0, a1_1, false, a2_0, a2_1, a2_2, a2_3, a2_4, a2_5, a2_6)
set_option maxHeartbeats 8000000 in
set_option maxRecDepth 100000 in
theorem Yp.calls (a0_0 : Int) (a0_1 : Int) (a1_0 : Int) (a1_1 : Int) (a2_0 : Int) (a2_1 : Int) (a2_2 : Int) (a2_3 : Int) (a2_4 : Int) (a2_5 : Int) (a2_6 : Int) (r1 : Int) (r2 : Int) (r3 : Int) (r4 : Int) (r5 : Int) (r6 : Bool) (r7 : Int) (r8 : Int) (r9 : Int) (r10 : Int) (r11 : Int) (r12 : Int) (r13 : Int) (w : World) (h : Yp.f a0_0 a0_1 a1_0 a1_1 a2_0 a2_1 a2_2 a2_3 a2_4 a2_5 a2_6 = some (r1, r2, r3, r4, r5, r6, r7, r8, r9, r10, r11, r12, r13)) :
  Calls Try.prog 52 #[.agg #[.int .i64 a0_0, .int .i64 a0_1], .agg #[.int .i64 a1_0, .int .i64 a1_1], .agg #[.int .i64 a2_0, .int .i64 a2_1, .int .i64 a2_2, .int .i64 a2_3, .int .i64 a2_4, .int .i64 a2_5, .int .i64 a2_6]] w fun e w' => e = .returned (.agg #[.int .i64 r1, .int .i64 r2, .int .i64 r3, .int .i64 r4, .int .i64 r5, .bool r6, .int .i64 r7, .int .i64 r8, .int .i64 r9, .int .i64 r10, .int .i64 r11, .int .i64 r12, .int .i64 r13]) ∧ Below w.heap.size w w' := by
 have hu26 := Try.underlying26
 have hu28 := Try.underlying28
 have hu30 := Try.underlying30
 have HB := Y0.mk (Below.refl w.heap.size w)
 have H : (some (a0_0, a0_1, 0, a1_0, a1_1, false, a2_0, a2_1, a2_2, a2_3, a2_4, a2_5, a2_6)) = some (r1, r2, r3, r4, r5, r6, r7, r8, r9, r10, r11, r12, r13) := h
 clear h
 simp only [Option.some.injEq, Prod.mk.injEq] at H
 obtain ⟨rfl, rfl, rfl, rfl, rfl, rfl, rfl, rfl, rfl, rfl, rfl, rfl, rfl⟩ := H
 go_enter Try.func52, Try.ntmps52
 go_wp2_with (first | ((with_reducible refine Ye (N := 3) rfl ?_); refine Yf ?hg (N := 3) ?hd (cs := #[.int .i64 a0_0, .int .i64 a0_1]) (t := 26) ?hr ?_; (case hd => rfl); (case hg => rfl); (case hr => first | (go_simp; done) | (go_simp; rfl)); intro g_6 hg w4 hbox hb; have n0_ := Y0.mk (Y5 (hU HB.out) hb); have n1_ := Y0.mk (hbox); have n2_ := gE hg HB; have n3_ := gE hg HB; clear HB; have HB := n0_; have B_1 := n1_; have W_8 := n2_; have G_4 := n3_; clear n0_ n1_ n2_ n3_; clear hb hbox hg) | ((with_reducible refine Ye (N := 4) rfl ?_); refine Yf ?hg (N := 4) ?hd (cs := #[.int .i64 a1_0, .int .i64 a1_1]) (t := 26) ?hr ?_; (case hd => rfl); (case hg => rfl); (case hr => first | (go_simp; done) | (go_simp; rfl)); intro g_7 hg w5 hbox hb; have n0_ := Y0.mk (Y3 (bU B_1.out) hb); have n1_ := Y0.mk (Y5 (hU HB.out) hb); have n2_ := Y0.mk (hbox); have n3_ := gE hg HB; have n4_ := gE hg HB; have n5_ := gL hg B_1; have n6_ := gG hg B_1; clear B_1; clear HB; have B_1 := n0_; have HB := n1_; have B_2 := n2_; have W_6 := n3_; have G_8 := n4_; have N_6 := n5_; have N_1 := n6_; clear n0_ n1_ n2_ n3_ n4_ n5_ n6_; clear hb hbox hg) | ((with_reducible refine Ye (N := 5) rfl ?_); refine Yf ?hg (N := 5) ?hd (cs := #[.int .i64 a2_0, .int .i64 a2_1, .int .i64 a2_2, .int .i64 a2_3, .int .i64 a2_4, .int .i64 a2_5, .int .i64 a2_6]) (t := 28) ?hr ?_; (case hd => rfl); (case hg => rfl); (case hr => first | (go_simp; done) | (go_simp; rfl)); intro g_8 hg w6 hbox hb; have n0_ := Y0.mk (Y3 (bU B_1.out) hb); have n1_ := Y0.mk (Y3 (bU B_2.out) hb); have n2_ := Y0.mk (Y5 (hU HB.out) hb); have n3_ := Y0.mk (hbox); have n4_ := gE hg HB; have n5_ := gE hg HB; have n6_ := gL hg B_1; have n7_ := gG hg B_1; have n8_ := gL hg B_2; have n9_ := gG hg B_2; clear B_1; clear B_2; clear HB; have B_1 := n0_; have B_2 := n1_; have HB := n2_; have B_3 := n3_; have W_3 := n4_; have G_0 := n5_; have N_9 := n6_; have N_0 := n7_; have N_a := n8_; have N_8 := n9_; clear n0_ n1_ n2_ n3_ n4_ n5_ n6_ n7_ n8_ n9_; clear hb hbox hg) | ((with_reducible refine Ye (N := 6) rfl ?_); refine Yf ?hg (N := 6) ?hd (cs := #[.int .i64 0, .int .i64 0, .int .i64 0, .int .i64 0, .int .i64 0, .bool false, .int .i64 0, .int .i64 0, .int .i64 0, .int .i64 0, .int .i64 0, .int .i64 0, .int .i64 0]) (t := 30) ?hr ?_; (case hd => rfl); (case hg => rfl); (case hr => first | (go_simp; done) | (go_simp; rfl)); intro g_3 hg w7 hbox hb; have n0_ := Y0.mk (Y3 (bU B_1.out) hb); have n1_ := Y0.mk (Y3 (bU B_2.out) hb); have n2_ := Y0.mk (Y3 (bU B_3.out) hb); have n3_ := Y0.mk (Y5 (hU HB.out) hb); have n4_ := Y0.mk (hbox); have n5_ := gE hg HB; have n6_ := gE hg HB; have n7_ := gL hg B_1; have n8_ := gG hg B_1; have n9_ := gL hg B_2; have n10_ := gG hg B_2; have n11_ := gL hg B_3; have n12_ := gG hg B_3; clear B_1; clear B_2; clear B_3; clear HB; have B_1 := n0_; have B_2 := n1_; have B_3 := n2_; have HB := n3_; have B_7 := n4_; have W_2 := n5_; have G_2 := n6_; have N_2 := n7_; have N_7 := n8_; have N_3 := n9_; have N_5 := n10_; have N_4 := n11_; have N_b := n12_; clear n0_ n1_ n2_ n3_ n4_ n5_ n6_ n7_ n8_ n9_ n10_ n11_ n12_; clear hb hbox hg; have hnb8 := N_6.out; have hnc8 := N_1.out; have hnb9 := N_9.out; have hnc9 := N_0.out; have hnb10 := N_2.out; have hnc10 := N_7.out; have z_1 := Y2 B_1.out; have f_2 := Y4 B_1.out; have hnb12 := N_a.out; have hnc12 := N_8.out; have hnb13 := N_3.out; have hnc13 := N_5.out; have z_3 := Y2 B_2.out; have f_3 := Y4 B_2.out; have hnb15 := N_4.out; have hnc15 := N_b.out; have z_2 := Y2 B_3.out; have f_1 := Y4 B_3.out; have z_4 := Y2 B_7.out; have f_4 := Y4 B_7.out))
 refine bodyPost_ret (results_cell_row rfl _ _ g_3 30 #[.int .i64 a0_0, .int .i64 a0_1, .int .i64 0, .int .i64 a1_0, .int .i64 a1_1, .bool false, .int .i64 a2_0, .int .i64 a2_1, .int .i64 a2_2, .int .i64 a2_3, .int .i64 a2_4, .int .i64 a2_5, .int .i64 a2_6] (0, 0) _ rfl (by (with_reducible repeat (first | refine Y8 ?_ _ | refine Y7 ?_ | refine Y6 ?_ _)); apply Yn; (iterate 12 ((with_reducible repeat (first | refine Y8 ?_ _ | refine Y7 ?_ | refine Y6 ?_ _)); apply Y1m)); (with_reducible repeat (first | refine Y8 ?_ _ | refine Y7 ?_ | refine Y6 ?_ _)); exact B_7.out; simp only [List.setIfInBounds_toArray, List.set_cons_zero, List.set_cons_succ]) Try.underlying30 rfl (by kernel_rfl)) rfl ?_
 exact ⟨reT, hU HB.out⟩
def YQ.f  : Option (Int × Int × Int × Int × Int × Int × Int) := some (1, 0, 12, 24, 1, 0, 0)
set_option maxHeartbeats 8000000 in
set_option maxRecDepth 100000 in
theorem YQ.calls  (r1 : Int) (r2 : Int) (r3 : Int) (r4 : Int) (r5 : Int) (r6 : Int) (r7 : Int) (w : World) (h : YQ.f  = some (r1, r2, r3, r4, r5, r6, r7)) :
  Calls Try.prog 53 #[] w fun e w' => e = .returned (.agg #[.int .i64 r1, .int .i64 r2, .int .i64 r3, .int .i64 r4, .int .i64 r5, .int .i64 r6, .int .i64 r7]) ∧ Below w.heap.size w w' := by
 have hu28 := Try.underlying28
 have HB := Y0.mk (Below.refl w.heap.size w)
 have H : (some (1, 0, 12, 24, 1, 0, 0)) = some (r1, r2, r3, r4, r5, r6, r7) := h
 clear h
 simp only [Option.some.injEq, Prod.mk.injEq] at H
 obtain ⟨rfl, rfl, rfl, rfl, rfl, rfl, rfl⟩ := H
 go_enter Try.func53, Try.ntmps53
 go_wp2_with (first | ((with_reducible refine Ye (N := 0) rfl ?_); refine Yf ?hg (N := 0) ?hd (cs := #[.int .i64 0, .int .i64 0, .int .i64 0, .int .i64 0, .int .i64 0, .int .i64 0, .int .i64 0]) (t := 28) ?hr ?_; (case hd => rfl); (case hg => rfl); (case hr => first | (go_simp; done) | (go_simp; rfl)); intro g_4 hg w1 hbox hb; have n0_ := Y0.mk (Y5 (hU HB.out) hb); have n1_ := Y0.mk (hbox); have n2_ := gE hg HB; have n3_ := gE hg HB; clear HB; have HB := n0_; have B_4 := n1_; have W_0 := n2_; have G_1 := n3_; clear n0_ n1_ n2_ n3_; clear hb hbox hg; have z_0 := Y2 B_4.out; have f_0 := Y4 B_4.out))
 refine bodyPost_ret (results_cell_row rfl _ _ g_4 28 #[.int .i64 1, .int .i64 0, .int .i64 12, .int .i64 24, .int .i64 1, .int .i64 0, .int .i64 0] (0, 0) _ rfl (by (with_reducible repeat (first | refine Y8 ?_ _ | refine Y7 ?_ | refine Y6 ?_ _)); apply Yn; (iterate 6 ((with_reducible repeat (first | refine Y8 ?_ _ | refine Y7 ?_ | refine Y6 ?_ _)); apply Y1m)); (with_reducible repeat (first | refine Y8 ?_ _ | refine Y7 ?_ | refine Y6 ?_ _)); exact B_4.out; simp only [List.setIfInBounds_toArray, List.set_cons_zero, List.set_cons_succ]) Try.underlying28 rfl (by kernel_rfl)) rfl ?_
 exact ⟨reT, hU HB.out⟩
def Y1b.f  : Option (Int × (List (S30))) := (Yb.f 1 1).bind fun b_6 => ((Yb.f 1 1).bind fun b_9 => ((Yw.f).bind fun b_4 => ((Yp.f b_6.1 b_6.2 b_9.1 b_9.2 b_4.1 b_4.2.1 b_4.2.2.1 b_4.2.2.2.1 b_4.2.2.2.2.1 b_4.2.2.2.2.2.1 b_4.2.2.2.2.2.2).bind fun b_0 => ((Yb.f 2 2).bind fun b_b => ((Yb.f 2 2).bind fun b_8 => ((YQ.f).bind fun b_5 => ((Yp.f b_b.1 b_b.2 b_8.1 b_8.2 b_5.1 b_5.2.1 b_5.2.2.1 b_5.2.2.2.1 b_5.2.2.2.2.1 b_5.2.2.2.2.2.1 b_5.2.2.2.2.2.2).bind fun b_2 => ((Yb.f 3 1).bind fun b_a => ((Yb.f 2 2).bind fun b_7 => ((YA.f).bind fun b_3 => ((Yp.f b_a.1 b_a.2 b_7.1 b_7.2 b_3.1 b_3.2.1 b_3.2.2.1 b_3.2.2.2.1 b_3.2.2.2.2.1 b_3.2.2.2.2.2.1 b_3.2.2.2.2.2.2).bind fun b_1 => (some (1, (([(⟨(⟨b_0.1, b_0.2.1⟩ : S26), b_0.2.2.1, (⟨b_0.2.2.2.1, b_0.2.2.2.2.1⟩ : S26), b_0.2.2.2.2.2.1, (⟨b_0.2.2.2.2.2.2.1, b_0.2.2.2.2.2.2.2.1, b_0.2.2.2.2.2.2.2.2.1, b_0.2.2.2.2.2.2.2.2.2.1, b_0.2.2.2.2.2.2.2.2.2.2.1, b_0.2.2.2.2.2.2.2.2.2.2.2.1, b_0.2.2.2.2.2.2.2.2.2.2.2.2⟩ : S28)⟩ : S30), (⟨(⟨b_2.1, b_2.2.1⟩ : S26), b_2.2.2.1, (⟨b_2.2.2.2.1, b_2.2.2.2.2.1⟩ : S26), b_2.2.2.2.2.2.1, (⟨b_2.2.2.2.2.2.2.1, b_2.2.2.2.2.2.2.2.1, b_2.2.2.2.2.2.2.2.2.1, b_2.2.2.2.2.2.2.2.2.2.1, b_2.2.2.2.2.2.2.2.2.2.2.1, b_2.2.2.2.2.2.2.2.2.2.2.2.1, b_2.2.2.2.2.2.2.2.2.2.2.2.2⟩ : S28)⟩ : S30), (⟨(⟨b_1.1, b_1.2.1⟩ : S26), b_1.2.2.1, (⟨b_1.2.2.2.1, b_1.2.2.2.2.1⟩ : S26), b_1.2.2.2.2.2.1, (⟨b_1.2.2.2.2.2.2.1, b_1.2.2.2.2.2.2.2.1, b_1.2.2.2.2.2.2.2.2.1, b_1.2.2.2.2.2.2.2.2.2.1, b_1.2.2.2.2.2.2.2.2.2.2.1, b_1.2.2.2.2.2.2.2.2.2.2.2.1, b_1.2.2.2.2.2.2.2.2.2.2.2.2⟩ : S28)⟩ : S30)] : List (S30))))))))))))))))
set_option maxHeartbeats 8000000 in
set_option maxRecDepth 100000 in
theorem Y1b.calls  (r1 : Int) (r2 : List (S30)) (w : World) (h : Y1b.f  = some (r1, r2)) :
  Calls Try.prog 35 #[] w fun e w' => ∃ v1_ : Value, e = .returned (.agg #[.int .i64 r1, v1_]) ∧ Kd.R k30 30 w' w.heap.size (fun _ => True) v1_ r2 ∧ Below w.heap.size w w' := by
 have hu24 := Try.underlying24
 have HB := Y0.mk (Below.refl w.heap.size w)
 have H : ((Yb.f 1 1).bind fun b_6 => ((Yb.f 1 1).bind fun b_9 => ((Yw.f).bind fun b_4 => ((Yp.f b_6.1 b_6.2 b_9.1 b_9.2 b_4.1 b_4.2.1 b_4.2.2.1 b_4.2.2.2.1 b_4.2.2.2.2.1 b_4.2.2.2.2.2.1 b_4.2.2.2.2.2.2).bind fun b_0 => ((Yb.f 2 2).bind fun b_b => ((Yb.f 2 2).bind fun b_8 => ((YQ.f).bind fun b_5 => ((Yp.f b_b.1 b_b.2 b_8.1 b_8.2 b_5.1 b_5.2.1 b_5.2.2.1 b_5.2.2.2.1 b_5.2.2.2.2.1 b_5.2.2.2.2.2.1 b_5.2.2.2.2.2.2).bind fun b_2 => ((Yb.f 3 1).bind fun b_a => ((Yb.f 2 2).bind fun b_7 => ((YA.f).bind fun b_3 => ((Yp.f b_a.1 b_a.2 b_7.1 b_7.2 b_3.1 b_3.2.1 b_3.2.2.1 b_3.2.2.2.1 b_3.2.2.2.2.1 b_3.2.2.2.2.2.1 b_3.2.2.2.2.2.2).bind fun b_1 => (some (1, (([(⟨(⟨b_0.1, b_0.2.1⟩ : S26), b_0.2.2.1, (⟨b_0.2.2.2.1, b_0.2.2.2.2.1⟩ : S26), b_0.2.2.2.2.2.1, (⟨b_0.2.2.2.2.2.2.1, b_0.2.2.2.2.2.2.2.1, b_0.2.2.2.2.2.2.2.2.1, b_0.2.2.2.2.2.2.2.2.2.1, b_0.2.2.2.2.2.2.2.2.2.2.1, b_0.2.2.2.2.2.2.2.2.2.2.2.1, b_0.2.2.2.2.2.2.2.2.2.2.2.2⟩ : S28)⟩ : S30), (⟨(⟨b_2.1, b_2.2.1⟩ : S26), b_2.2.2.1, (⟨b_2.2.2.2.1, b_2.2.2.2.2.1⟩ : S26), b_2.2.2.2.2.2.1, (⟨b_2.2.2.2.2.2.2.1, b_2.2.2.2.2.2.2.2.1, b_2.2.2.2.2.2.2.2.2.1, b_2.2.2.2.2.2.2.2.2.2.1, b_2.2.2.2.2.2.2.2.2.2.2.1, b_2.2.2.2.2.2.2.2.2.2.2.2.1, b_2.2.2.2.2.2.2.2.2.2.2.2.2⟩ : S28)⟩ : S30), (⟨(⟨b_1.1, b_1.2.1⟩ : S26), b_1.2.2.1, (⟨b_1.2.2.2.1, b_1.2.2.2.2.1⟩ : S26), b_1.2.2.2.2.2.1, (⟨b_1.2.2.2.2.2.2.1, b_1.2.2.2.2.2.2.2.1, b_1.2.2.2.2.2.2.2.2.1, b_1.2.2.2.2.2.2.2.2.2.1, b_1.2.2.2.2.2.2.2.2.2.2.1, b_1.2.2.2.2.2.2.2.2.2.2.2.1, b_1.2.2.2.2.2.2.2.2.2.2.2.2⟩ : S28)⟩ : S30)] : List (S30))))))))))))))))) = some (r1, r2) := h
 clear h
 obtain ⟨⟨t162, t163⟩, A10, H⟩ := bS H
 try dsimp only at H
 have A1 := Y0.mk A10
 clear A10
 obtain ⟨⟨t164, t165⟩, A20, H⟩ := bS H
 try dsimp only at H
 have A2 := Y0.mk A20
 clear A20
 obtain ⟨⟨t166, t167, t168, t169, t170, t171, t172⟩, A30, H⟩ := bS H
 try dsimp only at H
 have A3 := Y0.mk A30
 clear A30
 obtain ⟨⟨t_i, t174, t_5, t_7, t_c, t_r, t_h, t_n, t_j, t_0, t_x, t_k, t_8⟩, A40, H⟩ := bS H
 try dsimp only at H
 have A4 := Y0.mk A40
 clear A40
 obtain ⟨⟨t186, t187⟩, A50, H⟩ := bS H
 try dsimp only at H
 have A5 := Y0.mk A50
 clear A50
 obtain ⟨⟨t188, t189⟩, A60, H⟩ := bS H
 try dsimp only at H
 have A6 := Y0.mk A60
 clear A60
 obtain ⟨⟨t190, t191, t192, t193, t194, t195, t196⟩, A70, H⟩ := bS H
 try dsimp only at H
 have A7 := Y0.mk A70
 clear A70
 obtain ⟨⟨t_3, t_2, t199, t_s, t_v, t_o, t_t, t204, t_l, t_1, t_z, t_b, t_d⟩, A80, H⟩ := bS H
 try dsimp only at H
 have A8 := Y0.mk A80
 clear A80
 obtain ⟨⟨t210, t211⟩, A90, H⟩ := bS H
 try dsimp only at H
 have A9 := Y0.mk A90
 clear A90
 obtain ⟨⟨t212, t213⟩, A100, H⟩ := bS H
 try dsimp only at H
 have A10 := Y0.mk A100
 clear A100
 obtain ⟨⟨t214, t215, t216, t217, t218, t219, t220⟩, A110, H⟩ := bS H
 try dsimp only at H
 have A11 := Y0.mk A110
 clear A110
 obtain ⟨⟨t_m, t_f, t_w, t_p, t_9, t_e, t_4, t_u, t_a, t_6, t_q, t_g, t_y⟩, A120, H⟩ := bS H
 try dsimp only at H
 have A12 := Y0.mk A120
 clear A120
 obtain ⟨y234, hy234⟩ : ∃ y_ : List (S30), y_ = (([(⟨(⟨t_i, t174⟩ : S26), t_5, (⟨t_7, t_c⟩ : S26), t_r, (⟨t_h, t_n, t_j, t_0, t_x, t_k, t_8⟩ : S28)⟩ : S30), (⟨(⟨t_3, t_2⟩ : S26), t199, (⟨t_s, t_v⟩ : S26), t_o, (⟨t_t, t204, t_l, t_1, t_z, t_b, t_d⟩ : S28)⟩ : S30), (⟨(⟨t_m, t_f⟩ : S26), t_w, (⟨t_p, t_9⟩ : S26), t_e, (⟨t_4, t_u, t_a, t_6, t_q, t_g, t_y⟩ : S28)⟩ : S30)] : List (S30))) := ⟨_, rfl⟩
 replace H : (some (1, y234)) = some (r1, r2) := by first | (rw [hy234]; with_reducible exact H) | (have H2_ := (Option.bind_some _ _).symm.trans H; rw [hy234]; with_reducible exact H2_) | (have H2_ := (Option.bind_some _ _).symm.trans H; with_reducible exact H2_) | with_reducible exact H | (rw [hy234]; exact H) | exact H
 have Ny234 := Y0.mk hy234
 clear hy234
 simp only [Option.some.injEq, Prod.mk.injEq] at H
 obtain ⟨rfl, rfl⟩ := H
 go_enter Try.func35, Try.ntmps35
 go_wp2_with (first | ((with_reducible refine Ye (N := 0) rfl ?_); refine Yf ?hg (N := 0) ?hd (cs := #[.int .i64 0, .slice none 0 0]) (t := 24) ?hr ?_; (case hd => rfl); (case hg => rfl); (case hr => first | (go_simp; done) | (go_simp; rfl)); intro g_0 hg w13 hbox hb; have n0_ := Y0.mk (Y5 (hU HB.out) hb); have n1_ := Y0.mk (hbox); have n2_ := gE hg HB; have n3_ := gE hg HB; clear HB; have HB := n0_; have B_0 := n1_; have W_7 := n2_; have G_3 := n3_; clear n0_ n1_ n2_ n3_; clear hb hbox hg) | ((with_reducible refine Ye (N := 1) rfl ?_); (with_reducible refine Yd (f := 51) rfl ?_); refine YG (some 1) rfl rfl Try.func51 (by kernel_rfl) rfl #[.int .i64 1, .int .i64 1] rfl (by (try simp only [List.map_toArray, List.map_cons, List.map_nil]); first | done | (go_simp; done) | rfl | (simp only [List.length_drop, List.length_take]; rfl)) ?_; (with_reducible refine (Yb.calls 1 1 t162 t163 _ A1.out).mono ?_); rintro e w14 ⟨rfl, hb⟩; refine ⟨_, rfl, ?_⟩; replace B_0 := Y0.mk (Y3 (bU B_0.out) hb); replace HB := Y0.mk (Y5 (hU HB.out) hb); (try clear hb); (try clear hb2); (try clear hk); (try clear hi)) | ((with_reducible refine Ye (N := 2) rfl ?_); (with_reducible refine Yd (f := 51) rfl ?_); refine YG (some 2) rfl rfl Try.func51 (by kernel_rfl) rfl #[.int .i64 1, .int .i64 1] rfl (by (try simp only [List.map_toArray, List.map_cons, List.map_nil]); first | done | (go_simp; done) | rfl | (simp only [List.length_drop, List.length_take]; rfl)) ?_; (with_reducible refine (Yb.calls 1 1 t164 t165 _ A2.out).mono ?_); rintro e w15 ⟨rfl, hb⟩; refine ⟨_, rfl, ?_⟩; replace B_0 := Y0.mk (Y3 (bU B_0.out) hb); replace HB := Y0.mk (Y5 (hU HB.out) hb); (try clear hb); (try clear hb2); (try clear hk); (try clear hi)) | ((with_reducible refine Ye (N := 3) rfl ?_); (with_reducible refine Yd (f := 49) rfl ?_); refine YG (some 3) rfl rfl Try.func49 (by kernel_rfl) rfl #[] rfl (by (try simp only [List.map_toArray, List.map_cons, List.map_nil]); first | done | (go_simp; done) | rfl | (simp only [List.length_drop, List.length_take]; rfl)) ?_; (with_reducible refine (Yw.calls  t166 t167 t168 t169 t170 t171 t172 _ A3.out).mono ?_); rintro e w16 ⟨rfl, hb⟩; refine ⟨_, rfl, ?_⟩; replace B_0 := Y0.mk (Y3 (bU B_0.out) hb); replace HB := Y0.mk (Y5 (hU HB.out) hb); (try clear hb); (try clear hb2); (try clear hk); (try clear hi)) | ((with_reducible refine Ye (N := 4) rfl ?_); (with_reducible refine Yd (f := 52) rfl ?_); refine YG (some 4) rfl rfl Try.func52 (by kernel_rfl) rfl #[.agg #[.int .i64 t162, .int .i64 t163], .agg #[.int .i64 t164, .int .i64 t165], .agg #[.int .i64 t166, .int .i64 t167, .int .i64 t168, .int .i64 t169, .int .i64 t170, .int .i64 t171, .int .i64 t172]] rfl (by (try simp only [List.map_toArray, List.map_cons, List.map_nil]); first | done | (go_simp; done) | rfl | (simp only [List.length_drop, List.length_take]; rfl)) ?_; (with_reducible refine (Yp.calls t162 t163 t164 t165 t166 t167 t168 t169 t170 t171 t172 t_i t174 t_5 t_7 t_c t_r t_h t_n t_j t_0 t_x t_k t_8 _ A4.out).mono ?_); rintro e w17 ⟨rfl, hb⟩; refine ⟨_, rfl, ?_⟩; replace B_0 := Y0.mk (Y3 (bU B_0.out) hb); replace HB := Y0.mk (Y5 (hU HB.out) hb); (try clear hb); (try clear hb2); (try clear hk); (try clear hi)) | ((with_reducible refine Ye (N := 5) rfl ?_); (with_reducible refine Yd (f := 51) rfl ?_); refine YG (some 5) rfl rfl Try.func51 (by kernel_rfl) rfl #[.int .i64 2, .int .i64 2] rfl (by (try simp only [List.map_toArray, List.map_cons, List.map_nil]); first | done | (go_simp; done) | rfl | (simp only [List.length_drop, List.length_take]; rfl)) ?_; (with_reducible refine (Yb.calls 2 2 t186 t187 _ A5.out).mono ?_); rintro e w18 ⟨rfl, hb⟩; refine ⟨_, rfl, ?_⟩; replace B_0 := Y0.mk (Y3 (bU B_0.out) hb); replace HB := Y0.mk (Y5 (hU HB.out) hb); (try clear hb); (try clear hb2); (try clear hk); (try clear hi)) | ((with_reducible refine Ye (N := 6) rfl ?_); (with_reducible refine Yd (f := 51) rfl ?_); refine YG (some 6) rfl rfl Try.func51 (by kernel_rfl) rfl #[.int .i64 2, .int .i64 2] rfl (by (try simp only [List.map_toArray, List.map_cons, List.map_nil]); first | done | (go_simp; done) | rfl | (simp only [List.length_drop, List.length_take]; rfl)) ?_; (with_reducible refine (Yb.calls 2 2 t188 t189 _ A6.out).mono ?_); rintro e w19 ⟨rfl, hb⟩; refine ⟨_, rfl, ?_⟩; replace B_0 := Y0.mk (Y3 (bU B_0.out) hb); replace HB := Y0.mk (Y5 (hU HB.out) hb); (try clear hb); (try clear hb2); (try clear hk); (try clear hi)) | ((with_reducible refine Ye (N := 7) rfl ?_); (with_reducible refine Yd (f := 53) rfl ?_); refine YG (some 7) rfl rfl Try.func53 (by kernel_rfl) rfl #[] rfl (by (try simp only [List.map_toArray, List.map_cons, List.map_nil]); first | done | (go_simp; done) | rfl | (simp only [List.length_drop, List.length_take]; rfl)) ?_; (with_reducible refine (YQ.calls  t190 t191 t192 t193 t194 t195 t196 _ A7.out).mono ?_); rintro e w20 ⟨rfl, hb⟩; refine ⟨_, rfl, ?_⟩; replace B_0 := Y0.mk (Y3 (bU B_0.out) hb); replace HB := Y0.mk (Y5 (hU HB.out) hb); (try clear hb); (try clear hb2); (try clear hk); (try clear hi)) | ((with_reducible refine Ye (N := 8) rfl ?_); (with_reducible refine Yd (f := 52) rfl ?_); refine YG (some 8) rfl rfl Try.func52 (by kernel_rfl) rfl #[.agg #[.int .i64 t186, .int .i64 t187], .agg #[.int .i64 t188, .int .i64 t189], .agg #[.int .i64 t190, .int .i64 t191, .int .i64 t192, .int .i64 t193, .int .i64 t194, .int .i64 t195, .int .i64 t196]] rfl (by (try simp only [List.map_toArray, List.map_cons, List.map_nil]); first | done | (go_simp; done) | rfl | (simp only [List.length_drop, List.length_take]; rfl)) ?_; (with_reducible refine (Yp.calls t186 t187 t188 t189 t190 t191 t192 t193 t194 t195 t196 t_3 t_2 t199 t_s t_v t_o t_t t204 t_l t_1 t_z t_b t_d _ A8.out).mono ?_); rintro e w21 ⟨rfl, hb⟩; refine ⟨_, rfl, ?_⟩; replace B_0 := Y0.mk (Y3 (bU B_0.out) hb); replace HB := Y0.mk (Y5 (hU HB.out) hb); (try clear hb); (try clear hb2); (try clear hk); (try clear hi)) | ((with_reducible refine Ye (N := 9) rfl ?_); (with_reducible refine Yd (f := 51) rfl ?_); refine YG (some 9) rfl rfl Try.func51 (by kernel_rfl) rfl #[.int .i64 3, .int .i64 1] rfl (by (try simp only [List.map_toArray, List.map_cons, List.map_nil]); first | done | (go_simp; done) | rfl | (simp only [List.length_drop, List.length_take]; rfl)) ?_; (with_reducible refine (Yb.calls 3 1 t210 t211 _ A9.out).mono ?_); rintro e w22 ⟨rfl, hb⟩; refine ⟨_, rfl, ?_⟩; replace B_0 := Y0.mk (Y3 (bU B_0.out) hb); replace HB := Y0.mk (Y5 (hU HB.out) hb); (try clear hb); (try clear hb2); (try clear hk); (try clear hi)) | ((with_reducible refine Ye (N := 10) rfl ?_); (with_reducible refine Yd (f := 51) rfl ?_); refine YG (some 10) rfl rfl Try.func51 (by kernel_rfl) rfl #[.int .i64 2, .int .i64 2] rfl (by (try simp only [List.map_toArray, List.map_cons, List.map_nil]); first | done | (go_simp; done) | rfl | (simp only [List.length_drop, List.length_take]; rfl)) ?_; (with_reducible refine (Yb.calls 2 2 t212 t213 _ A10.out).mono ?_); rintro e w23 ⟨rfl, hb⟩; refine ⟨_, rfl, ?_⟩; replace B_0 := Y0.mk (Y3 (bU B_0.out) hb); replace HB := Y0.mk (Y5 (hU HB.out) hb); (try clear hb); (try clear hb2); (try clear hk); (try clear hi)) | ((with_reducible refine Ye (N := 11) rfl ?_); (with_reducible refine Yd (f := 50) rfl ?_); refine YG (some 11) rfl rfl Try.func50 (by kernel_rfl) rfl #[] rfl (by (try simp only [List.map_toArray, List.map_cons, List.map_nil]); first | done | (go_simp; done) | rfl | (simp only [List.length_drop, List.length_take]; rfl)) ?_; (with_reducible refine (YA.calls  t214 t215 t216 t217 t218 t219 t220 _ A11.out).mono ?_); rintro e w24 ⟨rfl, hb⟩; refine ⟨_, rfl, ?_⟩; replace B_0 := Y0.mk (Y3 (bU B_0.out) hb); replace HB := Y0.mk (Y5 (hU HB.out) hb); (try clear hb); (try clear hb2); (try clear hk); (try clear hi)) | ((with_reducible refine Ye (N := 12) rfl ?_); (with_reducible refine Yd (f := 52) rfl ?_); refine YG (some 12) rfl rfl Try.func52 (by kernel_rfl) rfl #[.agg #[.int .i64 t210, .int .i64 t211], .agg #[.int .i64 t212, .int .i64 t213], .agg #[.int .i64 t214, .int .i64 t215, .int .i64 t216, .int .i64 t217, .int .i64 t218, .int .i64 t219, .int .i64 t220]] rfl (by (try simp only [List.map_toArray, List.map_cons, List.map_nil]); first | done | (go_simp; done) | rfl | (simp only [List.length_drop, List.length_take]; rfl)) ?_; (with_reducible refine (Yp.calls t210 t211 t212 t213 t214 t215 t216 t217 t218 t219 t220 t_m t_f t_w t_p t_9 t_e t_4 t_u t_a t_6 t_q t_g t_y _ A12.out).mono ?_); rintro e w25 ⟨rfl, hb⟩; refine ⟨_, rfl, ?_⟩; replace B_0 := Y0.mk (Y3 (bU B_0.out) hb); replace HB := Y0.mk (Y5 (hU HB.out) hb); (try clear hb); (try clear hb2); (try clear hk); (try clear hi)) | ((with_reducible refine Ye (N := 13) rfl ?_); refine Kd.R_lit k30 _ 30 ?hg (N := 13) ?hd (xs := ([(⟨(⟨t_i, t174⟩ : S26), t_5, (⟨t_7, t_c⟩ : S26), t_r, (⟨t_h, t_n, t_j, t_0, t_x, t_k, t_8⟩ : S28)⟩ : S30), (⟨(⟨t_3, t_2⟩ : S26), t199, (⟨t_s, t_v⟩ : S26), t_o, (⟨t_t, t204, t_l, t_1, t_z, t_b, t_d⟩ : S28)⟩ : S30), (⟨(⟨t_m, t_f⟩ : S26), t_w, (⟨t_p, t_9⟩ : S26), t_e, (⟨t_4, t_u, t_a, t_6, t_q, t_g, t_y⟩ : S28)⟩ : S30)] : List (S30))) (inner := [.int .i64 t_i, .int .i64 t174, .int .i64 t_5, .int .i64 t_7, .int .i64 t_c, .bool t_r, .int .i64 t_h, .int .i64 t_n, .int .i64 t_j, .int .i64 t_0, .int .i64 t_x, .int .i64 t_k, .int .i64 t_8, .int .i64 t_3, .int .i64 t_2, .int .i64 t199, .int .i64 t_s, .int .i64 t_v, .bool t_o, .int .i64 t_t, .int .i64 t204, .int .i64 t_l, .int .i64 t_1, .int .i64 t_z, .int .i64 t_b, .int .i64 t_d, .int .i64 t_m, .int .i64 t_f, .int .i64 t_w, .int .i64 t_p, .int .i64 t_9, .bool t_e, .int .i64 t_4, .int .i64 t_u, .int .i64 t_a, .int .i64 t_6, .int .i64 t_q, .int .i64 t_g, .int .i64 t_y]) (ok := fun _ => True) (okp := fun _ => True) ?hr ?hp (fun _ hk => hk) trivial (Below.refl _ _) (Nat.le_refl _) (by simp) ?_; (case hd => rfl); (case hg => rfl); (case hr => first | (go_simp; done) | (go_simp; rfl)); (case hp => exact (Reps.front (show Kd.M k30 _ _ _ (⟨(⟨t_i, t174⟩ : S26), t_5, (⟨t_7, t_c⟩ : S26), t_r, (⟨t_h, t_n, t_j, t_0, t_x, t_k, t_8⟩ : S28)⟩ : S30) [.int .i64 t_i, .int .i64 t174, .int .i64 t_5, .int .i64 t_7, .int .i64 t_c, .bool t_r, .int .i64 t_h, .int .i64 t_n, .int .i64 t_j, .int .i64 t_0, .int .i64 t_x, .int .i64 t_k, .int .i64 t_8] from (Y1h _ _ _ (⟨(⟨t_i, t174⟩ : S26), t_5, (⟨t_7, t_c⟩ : S26), t_r, (⟨t_h, t_n, t_j, t_0, t_x, t_k, t_8⟩ : S28)⟩ : S30) )) rfl (Reps.front (show Kd.M k30 _ _ _ (⟨(⟨t_3, t_2⟩ : S26), t199, (⟨t_s, t_v⟩ : S26), t_o, (⟨t_t, t204, t_l, t_1, t_z, t_b, t_d⟩ : S28)⟩ : S30) [.int .i64 t_3, .int .i64 t_2, .int .i64 t199, .int .i64 t_s, .int .i64 t_v, .bool t_o, .int .i64 t_t, .int .i64 t204, .int .i64 t_l, .int .i64 t_1, .int .i64 t_z, .int .i64 t_b, .int .i64 t_d] from (Y1h _ _ _ (⟨(⟨t_3, t_2⟩ : S26), t199, (⟨t_s, t_v⟩ : S26), t_o, (⟨t_t, t204, t_l, t_1, t_z, t_b, t_d⟩ : S28)⟩ : S30) )) rfl (Reps.front (show Kd.M k30 _ _ _ (⟨(⟨t_m, t_f⟩ : S26), t_w, (⟨t_p, t_9⟩ : S26), t_e, (⟨t_4, t_u, t_a, t_6, t_q, t_g, t_y⟩ : S28)⟩ : S30) [.int .i64 t_m, .int .i64 t_f, .int .i64 t_w, .int .i64 t_p, .int .i64 t_9, .bool t_e, .int .i64 t_4, .int .i64 t_u, .int .i64 t_a, .int .i64 t_6, .int .i64 t_q, .int .i64 t_g, .int .i64 t_y] from (Y1h _ _ _ (⟨(⟨t_m, t_f⟩ : S26), t_w, (⟨t_p, t_9⟩ : S26), t_e, (⟨t_4, t_u, t_a, t_6, t_q, t_g, t_y⟩ : S28)⟩ : S30) )) rfl (Reps.none _ _) rfl) rfl) rfl)); intro v_0 w26 ho27 hb hg_ hnew_; clear hg_ hnew_; (first | rw [← Ny234.out] at ho27 | (simp only [Int.reduceToNat] at ho27; rw [← Ny234.out] at ho27)); have n0_ := Y0.mk (Kd.R_lower ho27 (Yh (hU HB.out))); have n1_ := Y0.mk (Y3 (bU B_0.out) hb); have n2_ := Y0.mk (Y5 (hU HB.out) hb); clear B_0; clear HB; have O_0 := n0_; have B_0 := n1_; have HB := n2_; clear n0_ n1_ n2_; clear hb ho27; obtain ⟨Ao28, co28, eo28⟩ := Kd.R_slice O_0.out; subst eo28; have z_6 := Y2 B_0.out; have f_6 := Y4 B_0.out))
 refine bodyPost_ret (results_cell_row rfl _ _ g_0 24 #[.int .i64 1, .slice Ao28 y234.length co28] (0, 0) _ rfl (by (with_reducible repeat (first | refine Y8 ?_ _ | refine Y7 ?_ | refine Y6 ?_ _)); refine Yn (cs := #[.int .i64 1, .slice none 0 0]) ?_ 1 _ rfl; (with_reducible repeat (first | refine Y8 ?_ _ | refine Y7 ?_ | refine Y6 ?_ _)); refine Yn (cs := #[.int .i64 0, .slice none 0 0]) ?_ 0 _ rfl; (with_reducible repeat (first | refine Y8 ?_ _ | refine Y7 ?_ | refine Y6 ?_ _)); exact B_0.out) Try.underlying24 rfl (by kernel_rfl)) rfl ?_
 exact ⟨_, reT, by (with_reducible repeat (first | apply Kd.R_alloc | apply Kd.R_drewN | apply Kd.R_drew)); exact Kd.R_mono (Kd.R_far (p := ⟨g_0, 1, none⟩) (Kd.R_far (p := ⟨g_0, 0, none⟩) (Kd.R_types O_0.out B_0.out (by decide)) (fun _ hk => hk.2) (.int .i64 1)) (fun _ hk => hk.2) (.slice Ao28 y234.length co28)) (fun _ hk => trivial), hU HB.out⟩
def Yo.f (a0_0 : Int) (l0_1 : List (S30)) : Option (Bool) := some (decide ((l0_1.length : Int) > 40))
set_option maxHeartbeats 8000000 in
set_option maxRecDepth 100000 in
theorem Yo.calls (a0_0 : Int) (A0_1 : Option Addr) (c0_1 : Nat) (l0_1 : List (S30)) (r : Bool) (w : World) (hr0_1 : Kd.C k30 w A0_1 l0_1.length l0_1) (hc0_1 : l0_1.length ≤ c0_1) (h : Yo.f a0_0 l0_1 = some r) :
  Calls Try.prog 22 #[.agg #[.int .i64 a0_0, .slice A0_1 l0_1.length c0_1]] w fun e w' => e = .returned (.bool r) ∧ Below w.heap.size w w' := by
 have hu24 := Try.underlying24
 have HR0_1 := Y0.mk hr0_1
 have HC0_1 := Y0.mk hc0_1
 clear hr0_1 hc0_1
 have HB := Y0.mk (Below.refl w.heap.size w)
 have H : (some (decide ((l0_1.length : Int) > 40))) = some r := h
 clear h
 obtain rfl := Option.some.inj H
 go_enter Try.func22, Try.ntmps22
 go_wp2_with (first | ((with_reducible refine Ye (N := 1) rfl ?_); refine Yf ?hg (N := 1) ?hd (cs := #[.int .i64 a0_0, .slice A0_1 l0_1.length c0_1]) (t := 24) ?hr ?_; (case hd => rfl); (case hg => rfl); (case hr => first | (go_simp; done) | (go_simp; rfl)); intro g_4 hg w2 hbox hb; have n0_ := Y0.mk (Y5 (hU HB.out) hb); have n1_ := Y0.mk (hbox); have n2_ := gE hg HB; have n3_ := gE hg HB; clear HB; have HB := n0_; have B_4 := n1_; have W_4 := n2_; have G_4 := n3_; clear n0_ n1_ n2_ n3_; clear hb hbox hg; have z_a := Y2 B_4.out; have f_9 := Y4 B_4.out))
 go_ret
 exact ⟨reT, hU HB.out⟩
def Y1v.f (a0_0 : Int) (l0_1 : List (S30)) : Option (Bool) := (Yo.f a0_0 l0_1).bind fun t_3 => (if t_3 = true then (if (l0_1.length : Int) < 511 then (some true) else (some (decide ((l0_1.length : Int) > 513)))) else (some false))
set_option maxHeartbeats 8000000 in
set_option maxRecDepth 100000 in
theorem Y1v.calls (a0_0 : Int) (A0_1 : Option Addr) (c0_1 : Nat) (l0_1 : List (S30)) (r : Bool) (w : World) (hr0_1 : Kd.C k30 w A0_1 l0_1.length l0_1) (hc0_1 : l0_1.length ≤ c0_1) (h : Y1v.f a0_0 l0_1 = some r) :
  Calls Try.prog 17 #[.agg #[.int .i64 a0_0, .slice A0_1 l0_1.length c0_1]] w fun e w' => e = .returned (.bool r) ∧ Below w.heap.size w w' := by
 have hu24 := Try.underlying24
 have HR0_1 := Y0.mk hr0_1
 have HC0_1 := Y0.mk hc0_1
 clear hr0_1 hc0_1
 have HB := Y0.mk (Below.refl w.heap.size w)
 have H : ((Yo.f a0_0 l0_1).bind fun t_3 => (if t_3 = true then (if (l0_1.length : Int) < 511 then (some true) else (some (decide ((l0_1.length : Int) > 513)))) else (some false))) = some r := h
 clear h
 obtain ⟨t_3, A20, H⟩ := bS H
 replace H : (if t_3 = true then (if (l0_1.length : Int) < 511 then (some true) else (some (decide ((l0_1.length : Int) > 513)))) else (some false)) = some r := H
 have A2 := Y0.mk A20
 clear A20
 by_cases c3 : t_3 = true
 ·subst c3
  have H1 : (if (l0_1.length : Int) < 511 then (some true) else (some (decide ((l0_1.length : Int) > 513)))) = some r := by rw [if_pos rfl] at H; exact H
  clear H
  have H := H1
  clear H1
  by_cases c4 : (l0_1.length : Int) < 511
  ·rw [if_pos c4] at H
   have c4b0 := decide_eq_true c4
   have c4b1 : decide (l0_1.length < 511) = true := decide_eq_true (by omega)
   clear c4
   obtain rfl := Option.some.inj H
   go_enter Try.func17, Try.ntmps17
   go_wp2_with (first | ((with_reducible refine Ye (N := 1) rfl ?_); (try (refine YD (by rfl) ?_; dsimp only)); refine Yf ?hg (N := 1) ?hd (cs := #[.int .i64 a0_0, .slice A0_1 l0_1.length c0_1]) (t := 24) ?hr ?_; (case hd => rfl); (case hg => rfl); (case hr => first | (go_simp; done) | (go_simp; rfl)); intro g_1 hg w5 hbox hb; have n0_ := Y0.mk (Y5 (hU HB.out) hb); have n1_ := Y0.mk (hbox); have n2_ := gE hg HB; have n3_ := gE hg HB; clear HB; have HB := n0_; have B_1 := n1_; have W_1 := n2_; have G_2 := n3_; clear n0_ n1_ n2_ n3_; clear hb hbox hg; have z_6 := Y2 B_1.out; have f_c := Y4 B_1.out) | ((with_reducible refine Yd (f := 22) rfl ?_); refine goesA (some 4) Try.func22 #[.agg #[.int .i64 a0_0, .slice A0_1 l0_1.length c0_1]] ?_; (with_reducible refine (Yo.calls a0_0 _ _ l0_1 true _ ?side1 ?side2 A2.out).mono ?_); (case side1 => repeat (first | exact (Kd.C_below HR0_1.out HB.out) | (with_reducible refine Kd.C_alloc ?_ _) | (with_reducible refine Kd.C_drewN ?_ _) | (with_reducible refine Kd.C_drew ?_))); (case side2 => exact HC0_1.out); rintro e w7 ⟨rfl, hb⟩; refine ⟨_, rfl, ?_⟩; replace B_1 := Y0.mk (Y3 (bU B_1.out) hb); replace HB := Y0.mk (Y5 (hU HB.out) hb); (try clear hb); (try clear hb2); (try clear hk); (try clear hi); have z_2 := Y2 B_1.out; have f_0 := Y4 B_1.out))
   go_ret
   exact ⟨reT, hU HB.out⟩
  ·rw [if_neg c4] at H
   have c4b0 := decide_eq_false c4
   have c4b1 : decide (l0_1.length < 511) = false := decide_eq_false (by omega)
   clear c4
   obtain rfl := Option.some.inj H
   go_enter Try.func17, Try.ntmps17
   go_wp2_with (first | ((with_reducible refine Ye (N := 1) rfl ?_); (try (refine YD (by rfl) ?_; dsimp only)); refine Yf ?hg (N := 1) ?hd (cs := #[.int .i64 a0_0, .slice A0_1 l0_1.length c0_1]) (t := 24) ?hr ?_; (case hd => rfl); (case hg => rfl); (case hr => first | (go_simp; done) | (go_simp; rfl)); intro g_1 hg w9 hbox hb; have n0_ := Y0.mk (Y5 (hU HB.out) hb); have n1_ := Y0.mk (hbox); have n2_ := gE hg HB; have n3_ := gE hg HB; clear HB; have HB := n0_; have B_1 := n1_; have W_1 := n2_; have G_2 := n3_; clear n0_ n1_ n2_ n3_; clear hb hbox hg; have z_3 := Y2 B_1.out; have f_6 := Y4 B_1.out) | ((with_reducible refine Yd (f := 22) rfl ?_); refine goesA (some 4) Try.func22 #[.agg #[.int .i64 a0_0, .slice A0_1 l0_1.length c0_1]] ?_; (with_reducible refine (Yo.calls a0_0 _ _ l0_1 true _ ?side1 ?side2 A2.out).mono ?_); (case side1 => repeat (first | exact (Kd.C_below HR0_1.out HB.out) | (with_reducible refine Kd.C_alloc ?_ _) | (with_reducible refine Kd.C_drewN ?_ _) | (with_reducible refine Kd.C_drew ?_))); (case side2 => exact HC0_1.out); rintro e w11 ⟨rfl, hb⟩; refine ⟨_, rfl, ?_⟩; replace B_1 := Y0.mk (Y3 (bU B_1.out) hb); replace HB := Y0.mk (Y5 (hU HB.out) hb); (try clear hb); (try clear hb2); (try clear hk); (try clear hi); have z_9 := Y2 B_1.out; have f_4 := Y4 B_1.out))
   go_ret
   exact ⟨reT, hU HB.out⟩
 ·replace c3 := Bool.eq_false_iff.mpr c3
  subst c3
  have H1 : (some false) = some r := by rw [if_neg (show ¬ (false = true) by decide)] at H; exact H
  clear H
  have H := H1
  clear H1
  obtain rfl := Option.some.inj H
  go_enter Try.func17, Try.ntmps17
  go_wp2_with (first | ((with_reducible refine Ye (N := 1) rfl ?_); (try (refine YD (by rfl) ?_; dsimp only)); refine Yf ?hg (N := 1) ?hd (cs := #[.int .i64 a0_0, .slice A0_1 l0_1.length c0_1]) (t := 24) ?hr ?_; (case hd => rfl); (case hg => rfl); (case hr => first | (go_simp; done) | (go_simp; rfl)); intro g_1 hg w13 hbox hb; have n0_ := Y0.mk (Y5 (hU HB.out) hb); have n1_ := Y0.mk (hbox); have n2_ := gE hg HB; have n3_ := gE hg HB; clear HB; have HB := n0_; have B_1 := n1_; have W_1 := n2_; have G_2 := n3_; clear n0_ n1_ n2_ n3_; clear hb hbox hg; have z_0 := Y2 B_1.out; have f_2 := Y4 B_1.out) | ((with_reducible refine Yd (f := 22) rfl ?_); refine goesA (some 4) Try.func22 #[.agg #[.int .i64 a0_0, .slice A0_1 l0_1.length c0_1]] ?_; (with_reducible refine (Yo.calls a0_0 _ _ l0_1 false _ ?side1 ?side2 A2.out).mono ?_); (case side1 => repeat (first | exact (Kd.C_below HR0_1.out HB.out) | (with_reducible refine Kd.C_alloc ?_ _) | (with_reducible refine Kd.C_drewN ?_ _) | (with_reducible refine Kd.C_drew ?_))); (case side2 => exact HC0_1.out); rintro e w15 ⟨rfl, hb⟩; refine ⟨_, rfl, ?_⟩; replace B_1 := Y0.mk (Y3 (bU B_1.out) hb); replace HB := Y0.mk (Y5 (hU HB.out) hb); (try clear hb); (try clear hb2); (try clear hk); (try clear hi)))
  go_ret
  exact ⟨reT, hU HB.out⟩
def YN.f (a0_0 : Int) (a0_1 : Int) (a1_0 : Int) (a1_1 : Int) : Option (Bool) := if a0_0 < a1_0 then (some true) else (if a0_0 = a1_0 then (some (decide (a0_1 < a1_1))) else (some false))
set_option maxHeartbeats 8000000 in
set_option maxRecDepth 100000 in
theorem YN.calls (a0_0 : Int) (a0_1 : Int) (a1_0 : Int) (a1_1 : Int) (r : Bool) (w : World) (h : YN.f a0_0 a0_1 a1_0 a1_1 = some r) :
  Calls Try.prog 75 #[.agg #[.int .i64 a0_0, .int .i64 a0_1], .agg #[.int .i64 a1_0, .int .i64 a1_1]] w fun e w' => e = .returned (.bool r) ∧ Below w.heap.size w w' := by
 have hu26 := Try.underlying26
 have HB := Y0.mk (Below.refl w.heap.size w)
 have H : (if a0_0 < a1_0 then (some true) else (if a0_0 = a1_0 then (some (decide (a0_1 < a1_1))) else (some false))) = some r := h
 clear h
 by_cases c3 : a0_0 < a1_0
 ·rw [if_pos c3] at H
  have c3b0 := decide_eq_true c3
  clear c3
  obtain rfl := Option.some.inj H
  go_enter Try.func75, Try.ntmps75
  go_wp2_with (first | ((with_reducible refine Ye (N := 2) rfl ?_); refine Yf ?hg (N := 2) ?hd (cs := #[.int .i64 a0_0, .int .i64 a0_1]) (t := 26) ?hr ?_; (case hd => rfl); (case hg => rfl); (case hr => first | (go_simp; done) | (go_simp; rfl)); intro g_3 hg w4 hbox hb; have n0_ := Y0.mk (Y5 (hU HB.out) hb); have n1_ := Y0.mk (hbox); have n2_ := gE hg HB; have n3_ := gE hg HB; clear HB; have HB := n0_; have B_0 := n1_; have W_2 := n2_; have G_1 := n3_; clear n0_ n1_ n2_ n3_; clear hb hbox hg) | ((with_reducible refine Ye (N := 3) rfl ?_); refine Yf ?hg (N := 3) ?hd (cs := #[.int .i64 a1_0, .int .i64 a1_1]) (t := 26) ?hr ?_; (case hd => rfl); (case hg => rfl); (case hr => first | (go_simp; done) | (go_simp; rfl)); intro g_2 hg w5 hbox hb; have n0_ := Y0.mk (Y3 (bU B_0.out) hb); have n1_ := Y0.mk (Y5 (hU HB.out) hb); have n2_ := Y0.mk (hbox); have n3_ := gE hg HB; have n4_ := gE hg HB; have n5_ := gL hg B_0; have n6_ := gG hg B_0; clear B_0; clear HB; have B_0 := n0_; have HB := n1_; have B_3 := n2_; have W_3 := n3_; have G_3 := n4_; have N_1 := n5_; have N_0 := n6_; clear n0_ n1_ n2_ n3_ n4_ n5_ n6_; clear hb hbox hg; have hnb6 := N_1.out; have hnc6 := N_0.out; have z_c := Y2 B_0.out; have f_d := Y4 B_0.out; have z_2 := Y2 B_3.out; have f_0 := Y4 B_3.out))
  go_ret
  exact ⟨reT, hU HB.out⟩
 ·rw [if_neg c3] at H
  have c3b0 := decide_eq_false c3
  clear c3
  by_cases c9 : a0_0 = a1_0
  ·rw [if_pos c9] at H
   have c9b0 := bqT c9
   have c9b1 := bnF c9
   clear c9
   obtain rfl := Option.some.inj H
   go_enter Try.func75, Try.ntmps75
   go_wp2_with (first | ((with_reducible refine Ye (N := 2) rfl ?_); refine Yf ?hg (N := 2) ?hd (cs := #[.int .i64 a0_0, .int .i64 a0_1]) (t := 26) ?hr ?_; (case hd => rfl); (case hg => rfl); (case hr => first | (go_simp; done) | (go_simp; rfl)); intro g_3 hg w10 hbox hb; have n0_ := Y0.mk (Y5 (hU HB.out) hb); have n1_ := Y0.mk (hbox); have n2_ := gE hg HB; have n3_ := gE hg HB; clear HB; have HB := n0_; have B_0 := n1_; have W_2 := n2_; have G_1 := n3_; clear n0_ n1_ n2_ n3_; clear hb hbox hg) | ((with_reducible refine Ye (N := 3) rfl ?_); refine Yf ?hg (N := 3) ?hd (cs := #[.int .i64 a1_0, .int .i64 a1_1]) (t := 26) ?hr ?_; (case hd => rfl); (case hg => rfl); (case hr => first | (go_simp; done) | (go_simp; rfl)); intro g_2 hg w11 hbox hb; have n0_ := Y0.mk (Y3 (bU B_0.out) hb); have n1_ := Y0.mk (Y5 (hU HB.out) hb); have n2_ := Y0.mk (hbox); have n3_ := gE hg HB; have n4_ := gE hg HB; have n5_ := gL hg B_0; have n6_ := gG hg B_0; clear B_0; clear HB; have B_0 := n0_; have HB := n1_; have B_3 := n2_; have W_3 := n3_; have G_3 := n4_; have N_1 := n5_; have N_0 := n6_; clear n0_ n1_ n2_ n3_ n4_ n5_ n6_; clear hb hbox hg; have hnb12 := N_1.out; have hnc12 := N_0.out; have z_1 := Y2 B_0.out; have f_1 := Y4 B_0.out; have z_0 := Y2 B_3.out; have f_2 := Y4 B_3.out))
   go_ret
   exact ⟨reT, hU HB.out⟩
  ·rw [if_neg c9] at H
   have c9b0 := bqF c9
   have c9b1 := bnT c9
   obtain rfl := Option.some.inj H
   go_enter Try.func75, Try.ntmps75
   go_wp2_with (first | ((with_reducible refine Ye (N := 2) rfl ?_); refine Yf ?hg (N := 2) ?hd (cs := #[.int .i64 a0_0, .int .i64 a0_1]) (t := 26) ?hr ?_; (case hd => rfl); (case hg => rfl); (case hr => first | (go_simp; done) | (go_simp; rfl)); intro g_3 hg w15 hbox hb; have n0_ := Y0.mk (Y5 (hU HB.out) hb); have n1_ := Y0.mk (hbox); have n2_ := gE hg HB; have n3_ := gE hg HB; clear HB; have HB := n0_; have B_0 := n1_; have W_2 := n2_; have G_1 := n3_; clear n0_ n1_ n2_ n3_; clear hb hbox hg) | ((with_reducible refine Ye (N := 3) rfl ?_); refine Yf ?hg (N := 3) ?hd (cs := #[.int .i64 a1_0, .int .i64 a1_1]) (t := 26) ?hr ?_; (case hd => rfl); (case hg => rfl); (case hr => first | (go_simp; done) | (go_simp; rfl)); intro g_2 hg w16 hbox hb; have n0_ := Y0.mk (Y3 (bU B_0.out) hb); have n1_ := Y0.mk (Y5 (hU HB.out) hb); have n2_ := Y0.mk (hbox); have n3_ := gE hg HB; have n4_ := gE hg HB; have n5_ := gL hg B_0; have n6_ := gG hg B_0; clear B_0; clear HB; have B_0 := n0_; have HB := n1_; have B_3 := n2_; have W_3 := n3_; have G_3 := n4_; have N_1 := n5_; have N_0 := n6_; clear n0_ n1_ n2_ n3_ n4_ n5_ n6_; clear hb hbox hg; have hnb17 := N_1.out; have hnc17 := N_0.out; have z_d := Y2 B_0.out; have f_a := Y4 B_0.out; have z_b := Y2 B_3.out; have f_7 := Y4 B_3.out))
   go_ret
   exact ⟨reT, hU HB.out⟩
def Y13.f (a0 : Int) : Option (Bool) := if a0 = 0 then (some true) else (some (a0 == 1))
set_option maxHeartbeats 8000000 in
set_option maxRecDepth 100000 in
theorem Y13.calls (a0 : Int) (r : Bool) (w : World) (h : Y13.f a0 = some r) :
  Calls Try.prog 141 #[.int .i64 a0] w fun e w' => e = .returned (.bool r) ∧ Drawn0 w w' := by
 have H : (if a0 = 0 then (some true) else (some (a0 == 1))) = some r := h
 clear h
 by_cases c2 : a0 = 0
 ·rw [if_pos c2] at H
  have c2b0 := bqT c2
  have c2b1 := bnF c2
  clear c2
  obtain rfl := Option.some.inj H
  go_enter Try.func141, Try.ntmps141
  go_wp2
  go_ret
  exact ⟨reS, dS⟩
 ·rw [if_neg c2] at H
  have c2b0 := bqF c2
  have c2b1 := bnT c2
  obtain rfl := Option.some.inj H
  go_enter Try.func141, Try.ntmps141
  go_wp2
  go_ret
  exact ⟨reS, dS⟩
def Y16.f (a0_0 : Int) (a0_1 : Int) (a0_2 : Int) (a0_3 : Int) (a0_4 : Int) (a0_5 : Int) (a0_6 : Int) : Option (Bool) := if a0_0 = 1 then ((Y13.f a0_1).bind fun t_0 => (some t_0)) else (if a0_0 = 2 then ((Y13.f a0_1).bind fun t_2 => (some t_2)) else (if a0_0 = 3 then (if a0_1 ≥ 2 then (some (decide (a0_1 < 8))) else (some false)) else (some (a0_1 == 8))))
set_option maxHeartbeats 8000000 in
set_option maxRecDepth 100000 in
theorem Y16.calls (a0_0 : Int) (a0_1 : Int) (a0_2 : Int) (a0_3 : Int) (a0_4 : Int) (a0_5 : Int) (a0_6 : Int) (r : Bool) (w : World) (h : Y16.f a0_0 a0_1 a0_2 a0_3 a0_4 a0_5 a0_6 = some r) :
  Calls Try.prog 107 #[.agg #[.int .i64 a0_0, .int .i64 a0_1, .int .i64 a0_2, .int .i64 a0_3, .int .i64 a0_4, .int .i64 a0_5, .int .i64 a0_6]] w fun e w' => e = .returned (.bool r) ∧ Below w.heap.size w w' := by
 have hu28 := Try.underlying28
 have HB := Y0.mk (Below.refl w.heap.size w)
 have H : (if a0_0 = 1 then ((Y13.f a0_1).bind fun t_0 => (some t_0)) else (if a0_0 = 2 then ((Y13.f a0_1).bind fun t_2 => (some t_2)) else (if a0_0 = 3 then (if a0_1 ≥ 2 then (some (decide (a0_1 < 8))) else (some false)) else (some (a0_1 == 8))))) = some r := h
 clear h
 by_cases c2 : a0_0 = 1
 ·rw [if_pos c2] at H
  have c2b0 := bqT c2
  have c2b1 := bnF c2
  clear c2
  obtain ⟨t_0, A30, H⟩ := bS H
  replace H : (some t_0) = some r := H
  have A3 := Y0.mk A30
  clear A30
  obtain rfl := Option.some.inj H
  go_enter Try.func107, Try.ntmps107
  go_wp2_with (first | ((with_reducible refine Ye (N := 1) rfl ?_); refine Yf ?hg (N := 1) ?hd (cs := #[.int .i64 a0_0, .int .i64 a0_1, .int .i64 a0_2, .int .i64 a0_3, .int .i64 a0_4, .int .i64 a0_5, .int .i64 a0_6]) (t := 28) ?hr ?_; (case hd => rfl); (case hg => rfl); (case hr => first | (go_simp; done) | (go_simp; rfl)); intro g_0 hg w4 hbox hb; have n0_ := Y0.mk (Y5 (hU HB.out) hb); have n1_ := Y0.mk (hbox); have n2_ := gE hg HB; have n3_ := gE hg HB; clear HB; have HB := n0_; have B_2 := n1_; have W_0 := n2_; have G_0 := n3_; clear n0_ n1_ n2_ n3_; clear hb hbox hg; have z_7 := Y2 B_2.out; have f_5 := Y4 B_2.out) | ((with_reducible refine Yd (f := 141) rfl ?_); refine goesA (some 13) Try.func141 #[.int .i64 a0_1] ?_; (with_reducible refine (Y13.calls a0_1 t_0 _ A3.out).mono ?_); rintro e w' ⟨rfl, ⟨nd, rfl⟩⟩; refine ⟨_, rfl, ?_⟩))
  go_ret
  exact ⟨reT, hU HB.out⟩
 ·rw [if_neg c2] at H
  have c2b0 := bqF c2
  have c2b1 := bnT c2
  by_cases c6 : a0_0 = 2
  ·rw [if_pos c6] at H
   have c6b0 := bqT c6
   have c6b1 := bnF c6
   clear c6
   obtain ⟨t_2, A70, H⟩ := bS H
   replace H : (some t_2) = some r := H
   have A7 := Y0.mk A70
   clear A70
   obtain rfl := Option.some.inj H
   go_enter Try.func107, Try.ntmps107
   go_wp2_with (first | ((with_reducible refine Ye (N := 1) rfl ?_); refine Yf ?hg (N := 1) ?hd (cs := #[.int .i64 a0_0, .int .i64 a0_1, .int .i64 a0_2, .int .i64 a0_3, .int .i64 a0_4, .int .i64 a0_5, .int .i64 a0_6]) (t := 28) ?hr ?_; (case hd => rfl); (case hg => rfl); (case hr => first | (go_simp; done) | (go_simp; rfl)); intro g_0 hg w8 hbox hb; have n0_ := Y0.mk (Y5 (hU HB.out) hb); have n1_ := Y0.mk (hbox); have n2_ := gE hg HB; have n3_ := gE hg HB; clear HB; have HB := n0_; have B_2 := n1_; have W_0 := n2_; have G_0 := n3_; clear n0_ n1_ n2_ n3_; clear hb hbox hg; have z_5 := Y2 B_2.out; have f_b := Y4 B_2.out) | ((with_reducible refine Yd (f := 141) rfl ?_); refine goesA (some 13) Try.func141 #[.int .i64 a0_1] ?_; (with_reducible refine (Y13.calls a0_1 t_2 _ A7.out).mono ?_); rintro e w' ⟨rfl, ⟨nd, rfl⟩⟩; refine ⟨_, rfl, ?_⟩))
   go_ret
   exact ⟨reT, hU HB.out⟩
  ·rw [if_neg c6] at H
   have c6b0 := bqF c6
   have c6b1 := bnT c6
   by_cases c10 : a0_0 = 3
   ·rw [if_pos c10] at H
    have c10b0 := bqT c10
    have c10b1 := bnF c10
    clear c10
    by_cases c11 : a0_1 ≥ 2
    ·rw [if_pos c11] at H
     have c11b0 := decide_eq_true c11
     clear c11
     obtain rfl := Option.some.inj H
     go_enter Try.func107, Try.ntmps107
     go_wp2_with (first | ((with_reducible refine Ye (N := 1) rfl ?_); refine Yf ?hg (N := 1) ?hd (cs := #[.int .i64 a0_0, .int .i64 a0_1, .int .i64 a0_2, .int .i64 a0_3, .int .i64 a0_4, .int .i64 a0_5, .int .i64 a0_6]) (t := 28) ?hr ?_; (case hd => rfl); (case hg => rfl); (case hr => first | (go_simp; done) | (go_simp; rfl)); intro g_0 hg w12 hbox hb; have n0_ := Y0.mk (Y5 (hU HB.out) hb); have n1_ := Y0.mk (hbox); have n2_ := gE hg HB; have n3_ := gE hg HB; clear HB; have HB := n0_; have B_2 := n1_; have W_0 := n2_; have G_0 := n3_; clear n0_ n1_ n2_ n3_; clear hb hbox hg; have z_1 := Y2 B_2.out; have f_1 := Y4 B_2.out))
     go_ret
     exact ⟨reT, hU HB.out⟩
    ·rw [if_neg c11] at H
     have c11b0 := decide_eq_false c11
     clear c11
     obtain rfl := Option.some.inj H
     go_enter Try.func107, Try.ntmps107
     go_wp2_with (first | ((with_reducible refine Ye (N := 1) rfl ?_); refine Yf ?hg (N := 1) ?hd (cs := #[.int .i64 a0_0, .int .i64 a0_1, .int .i64 a0_2, .int .i64 a0_3, .int .i64 a0_4, .int .i64 a0_5, .int .i64 a0_6]) (t := 28) ?hr ?_; (case hd => rfl); (case hg => rfl); (case hr => first | (go_simp; done) | (go_simp; rfl)); intro g_0 hg w14 hbox hb; have n0_ := Y0.mk (Y5 (hU HB.out) hb); have n1_ := Y0.mk (hbox); have n2_ := gE hg HB; have n3_ := gE hg HB; clear HB; have HB := n0_; have B_2 := n1_; have W_0 := n2_; have G_0 := n3_; clear n0_ n1_ n2_ n3_; clear hb hbox hg; have z_4 := Y2 B_2.out; have f_3 := Y4 B_2.out))
     go_ret
     exact ⟨reT, hU HB.out⟩
   ·rw [if_neg c10] at H
    have c10b0 := bqF c10
    have c10b1 := bnT c10
    obtain rfl := Option.some.inj H
    go_enter Try.func107, Try.ntmps107
    go_wp2_with (first | ((with_reducible refine Ye (N := 1) rfl ?_); refine Yf ?hg (N := 1) ?hd (cs := #[.int .i64 a0_0, .int .i64 a0_1, .int .i64 a0_2, .int .i64 a0_3, .int .i64 a0_4, .int .i64 a0_5, .int .i64 a0_6]) (t := 28) ?hr ?_; (case hd => rfl); (case hg => rfl); (case hr => first | (go_simp; done) | (go_simp; rfl)); intro g_0 hg w16 hbox hb; have n0_ := Y0.mk (Y5 (hU HB.out) hb); have n1_ := Y0.mk (hbox); have n2_ := gE hg HB; have n3_ := gE hg HB; clear HB; have HB := n0_; have B_2 := n1_; have W_0 := n2_; have G_0 := n3_; clear n0_ n1_ n2_ n3_; clear hb hbox hg; have z_8 := Y2 B_2.out; have f_8 := Y4 B_2.out))
    go_ret
    exact ⟨reT, hU HB.out⟩
def dir_valid.f (a0 : Int) : Option (Bool) := if a0 ≥ 0 then (some (decide (a0 ≤ 8))) else (some false)
set_option maxHeartbeats 8000000 in
set_option maxRecDepth 100000 in
theorem dir_valid.calls (a0 : Int) (r : Bool) (w : World) (h : dir_valid.f a0 = some r) :
  Calls Try.prog 167 #[.int .i64 a0] w fun e w' => e = .returned (.bool r) ∧ Drawn0 w w' := by
 have H : (if a0 ≥ 0 then (some (decide (a0 ≤ 8))) else (some false)) = some r := h
 clear h
 by_cases c2 : a0 ≥ 0
 ·rw [if_pos c2] at H
  have c2b0 := decide_eq_true c2
  clear c2
  obtain rfl := Option.some.inj H
  go_enter Try.func167, Try.ntmps167
  go_wp2
  go_ret
  exact ⟨reS, dS⟩
 ·rw [if_neg c2] at H
  have c2b0 := decide_eq_false c2
  clear c2
  obtain rfl := Option.some.inj H
  go_enter Try.func167, Try.ntmps167
  go_wp2
  go_ret
  exact ⟨reS, dS⟩
def dir_Check.f (a0 : Int) (a1 : Int) : Option (Int) := (dir_valid.f a0).bind fun t_1 => (if t_1 = true then (if a1 < (-1) then (some 1) else (if a1 > 1 then (some 1) else (some 0))) else (some 1))
set_option maxHeartbeats 8000000 in
set_option maxRecDepth 100000 in
theorem dir_Check.calls (a0 : Int) (a1 : Int) (r : Int) (w : World) (h : dir_Check.f a0 a1 = some r) :
  Calls Try.prog 142 #[.int .i64 a0, .int .i64 a1] w fun e w' => e = .returned (.int .i64 r) ∧ Drawn0 w w' := by
 have H : ((dir_valid.f a0).bind fun t_1 => (if t_1 = true then (if a1 < (-1) then (some 1) else (if a1 > 1 then (some 1) else (some 0))) else (some 1))) = some r := h
 clear h
 obtain ⟨t_1, A30, H⟩ := bS H
 replace H : (if t_1 = true then (if a1 < (-1) then (some 1) else (if a1 > 1 then (some 1) else (some 0))) else (some 1)) = some r := H
 have A3 := Y0.mk A30
 clear A30
 by_cases c4 : t_1 = true
 ·subst c4
  have H1 : (if a1 < (-1) then (some 1) else (if a1 > 1 then (some 1) else (some 0))) = some r := by rw [if_pos rfl] at H; exact H
  clear H
  have H := H1
  clear H1
  by_cases c5 : a1 < (-1)
  ·rw [if_pos c5] at H
   have c5b0 := decide_eq_true c5
   clear c5
   obtain rfl := Option.some.inj H
   go_enter Try.func142, Try.ntmps142
   go_wp2_with (first | ((with_reducible refine Yd (f := 167) rfl ?_); refine goesA (some 6) Try.func167 #[.int .i64 a0] ?_; (with_reducible refine (dir_valid.calls a0 true _ A3.out).mono ?_); rintro e w' ⟨rfl, ⟨nd, rfl⟩⟩; refine ⟨_, rfl, ?_⟩))
   go_ret
   exact ⟨reS, dS⟩
  ·rw [if_neg c5] at H
   have c5b0 := decide_eq_false c5
   clear c5
   by_cases c6 : a1 > 1
   ·rw [if_pos c6] at H
    have c6b0 := decide_eq_true c6
    clear c6
    obtain rfl := Option.some.inj H
    go_enter Try.func142, Try.ntmps142
    go_wp2_with (first | ((with_reducible refine Yd (f := 167) rfl ?_); refine goesA (some 6) Try.func167 #[.int .i64 a0] ?_; (with_reducible refine (dir_valid.calls a0 true _ A3.out).mono ?_); rintro e w' ⟨rfl, ⟨nd, rfl⟩⟩; refine ⟨_, rfl, ?_⟩))
    go_ret
    exact ⟨reS, dS⟩
   ·rw [if_neg c6] at H
    have c6b0 := decide_eq_false c6
    clear c6
    obtain rfl := Option.some.inj H
    go_enter Try.func142, Try.ntmps142
    go_wp2_with (first | ((with_reducible refine Yd (f := 167) rfl ?_); refine goesA (some 6) Try.func167 #[.int .i64 a0] ?_; (with_reducible refine (dir_valid.calls a0 true _ A3.out).mono ?_); rintro e w' ⟨rfl, ⟨nd, rfl⟩⟩; refine ⟨_, rfl, ?_⟩))
    go_ret
    exact ⟨reS, dS⟩
 ·replace c4 := Bool.eq_false_iff.mpr c4
  subst c4
  have H1 : (some 1) = some r := by rw [if_neg (show ¬ (false = true) by decide)] at H; exact H
  clear H
  have H := H1
  clear H1
  obtain rfl := Option.some.inj H
  go_enter Try.func142, Try.ntmps142
  go_wp2_with (first | ((with_reducible refine Yd (f := 167) rfl ?_); refine goesA (some 6) Try.func167 #[.int .i64 a0] ?_; (with_reducible refine (dir_valid.calls a0 false _ A3.out).mono ?_); rintro e w' ⟨rfl, ⟨nd, rfl⟩⟩; refine ⟨_, rfl, ?_⟩))
  go_ret
  exact ⟨reS, dS⟩
end Go.Proofs.Yteopkkoblbmggaa.P
end

/- Texts of this claim in one: VP44, VRLastP, PureReplicaValue; no condition. -/
import Derived.Test.YteopkkoblbmggaaBAC
import Derived.Test.YteopkkoblbmggaaBAE
import Derived.Test.YteopkkoblbmggaaBAO
import Derived.Test.YteopkkoblbmggaaBAU
import Derived.Test.YteopkkoblbmggaaBAM
import Derived.Test.YteopkkoblbmggaaBAH
import Derived.Test.YteopkkoblbmggaaBAL
import Derived.Test.YteopkkoblbmggaaBAT
import Derived.Test.YteopkkoblbmggaaBAI
import Derived.Test.YteopkkoblbmggaaBAN
import Derived.Test.YteopkkoblbmggaaBAS
section
namespace Go.Proofs.Yteopkkoblbmggaa.P
open Go.RowKit Go.Proofs.YteopkkoblbmggaaW.PrintWords Go.Proofs.YteopkkoblbmggaaW.PrintLast Go.Proofs.YteopkkoblbmggaaW.PrintMore
attribute [local go_sem] Y10 Y12 Y19 Y1a YM YN Y11 Y13
set_option linter.unusedVariables false
set_option linter.unusedSimpArgs false
attribute [local go_sem high] eqA28
def YI.f (k : Nat) (a0_0 : Int) (l0_1 : List (S30)) (a1 : Int) (a2_0 : Int) (a2_1 : Int) : Option (Bool) := (YF.f a0_0 l0_1).bind fun t_g => (if t_g = true then ((Yb.f k).bind fun t_0 => (some t_0)) else ((Yy.f a0_0 l0_1 a1 a2_0 a2_1).bind fun b_1 => ((Yv.f k a0_0 l0_1 a1 a2_0 a2_1).bind fun b_0 => (if (b_1.1 == b_0.1 && (b_1.2.1 == b_0.2.1 && (b_1.2.2.1 == b_0.2.2.1 && (b_1.2.2.2.1 == b_0.2.2.2.1 && (b_1.2.2.2.2.1 == b_0.2.2.2.2.1 && (b_1.2.2.2.2.2.1 == b_0.2.2.2.2.2.1 && (b_1.2.2.2.2.2.2.1 == b_0.2.2.2.2.2.2.1))))))) = true then (if (b_1.2.2.2.2.2.2.2.1 == b_0.2.2.2.2.2.2.2.1) = true then (if b_1.2.2.2.2.2.2.2.2 = b_0.2.2.2.2.2.2.2.2 then ((Yb.f k).bind fun t_e => (some t_e)) else (none)) else (none)) else (none)))))
theorem YI.mono : ∀ a0 a1 a2 a3 a4 k, LeO (YI.f k a0 a1 a2 a3 a4) (YI.f (k + 1) a0 a1 a2 a3 a4) := by
 intro a0 a1 a2 a3 a4 k
 unfold YI.f
 repeat' first
   | (with_reducible exact Yb.mono _)
   | (with_reducible exact Yv.mono _ _ _ _ _ _)
   | (with_reducible exact LeO.refl _)
   | (with_reducible exact LeO.none _)
   | (with_reducible refine LeO.ite ?_ ?_)
   | (with_reducible refine LeO.bind ?_ (fun _ => ?_))
set_option maxHeartbeats 8000000 in
set_option maxRecDepth 100000 in
theorem YI.calls (k : Nat) (a0_0 : Int) (A0_1 : Option Addr) (c0_1 : Nat) (l0_1 : List (S30)) (a1 : Int) (a2_0 : Int) (a2_1 : Int) (r : Bool) (w : World) (hr0_1 : Kd.C k30 w A0_1 l0_1.length l0_1) (hc0_1 : l0_1.length ≤ c0_1) (h : YI.f k a0_0 l0_1 a1 a2_0 a2_1 = some r) :
  Calls Try.prog 5 #[.agg #[.int .i64 a0_0, .slice A0_1 l0_1.length c0_1], .int .i64 a1, .agg #[.int .i64 a2_0, .int .i64 a2_1]] w fun e w' => e = .returned (.bool r) ∧ Below w.heap.size w w' := by
 have hu24 := Try.underlying24
 have hu26 := Try.underlying26
 have hu28 := Try.underlying28
 have HR0_1 := Y0.mk hr0_1
 have HC0_1 := Y0.mk hc0_1
 clear hr0_1 hc0_1
 have HB := Y0.mk (Below.refl w.heap.size w)
 have H : ((YF.f a0_0 l0_1).bind fun t_g => (if t_g = true then ((Yb.f k).bind fun t_0 => (some t_0)) else ((Yy.f a0_0 l0_1 a1 a2_0 a2_1).bind fun b_1 => ((Yv.f k a0_0 l0_1 a1 a2_0 a2_1).bind fun b_0 => (if (b_1.1 == b_0.1 && (b_1.2.1 == b_0.2.1 && (b_1.2.2.1 == b_0.2.2.1 && (b_1.2.2.2.1 == b_0.2.2.2.1 && (b_1.2.2.2.2.1 == b_0.2.2.2.2.1 && (b_1.2.2.2.2.2.1 == b_0.2.2.2.2.2.1 && (b_1.2.2.2.2.2.2.1 == b_0.2.2.2.2.2.2.1))))))) = true then (if (b_1.2.2.2.2.2.2.2.1 == b_0.2.2.2.2.2.2.2.1) = true then (if b_1.2.2.2.2.2.2.2.2 = b_0.2.2.2.2.2.2.2.2 then ((Yb.f k).bind fun t_e => (some t_e)) else (none)) else (none)) else (none)))))) = some r := h
 clear h
 obtain ⟨t_g, A40, H⟩ := bS H
 try dsimp only at H
 have A4 := Y0.mk A40
 clear A40
 by_cases c5 : t_g = true
 ·subst c5
  have H1 : ((Yb.f k).bind fun t_0 => (some t_0)) = some r := by rw [if_pos rfl] at H; exact H
  clear H
  have H := H1
  clear H1
  obtain ⟨t_0, A60, H⟩ := bS H
  replace H : (some t_0) = some r := H
  have A6 := Y0.mk A60
  clear A60
  obtain rfl := Option.some.inj H
  go_enter Try.func5, Try.ntmps5
  go_wp2_with (first | ((with_reducible refine Yf (N := 3) rfl ?_); refine Yg ?hg (N := 3) ?hd (cs := #[.int .i64 a0_0, .slice A0_1 l0_1.length c0_1]) (t := 24) ?hr ?_; (case hd => rfl); (case hg => rfl); (case hr => first | (go_simp; done) | (go_simp; rfl)); intro g_1 hg w7 hbox hb; have n0_ := Y0.mk (Y7 (hU HB.out) hb); have n1_ := Y0.mk (hbox); have n2_ := gE hg HB; have n3_ := gE hg HB; clear HB; have HB := n0_; have B_0 := n1_; have W_0 := n2_; have G_1 := n3_; clear n0_ n1_ n2_ n3_; clear hb hbox hg) | ((with_reducible refine Yf (N := 5) rfl ?_); refine Yg ?hg (N := 5) ?hd (cs := #[.int .i64 a2_0, .int .i64 a2_1]) (t := 26) ?hr ?_; (case hd => rfl); (case hg => rfl); (case hr => first | (go_simp; done) | (go_simp; rfl)); intro g_0 hg w8 hbox hb; have n0_ := Y0.mk (Y3 (bU B_0.out) hb); have n1_ := Y0.mk (Y7 (hU HB.out) hb); have n2_ := Y0.mk (hbox); have n3_ := gE hg HB; have n4_ := gE hg HB; have n5_ := gL hg B_0; have n6_ := gG hg B_0; clear B_0; clear HB; have B_0 := n0_; have HB := n1_; have B_1 := n2_; have W_1 := n3_; have G_0 := n4_; have N_1 := n5_; have N_0 := n6_; clear n0_ n1_ n2_ n3_ n4_ n5_ n6_; clear hb hbox hg; have hnb9 := N_1.out; have hnc9 := N_0.out; have z_6 := Y2 B_0.out; have f_6 := Y5 B_0.out) | ((with_reducible refine Yd (f := 22) rfl ?_); refine goesA (some 14) Try.func22 #[.agg #[.int .i64 a0_0, .slice A0_1 l0_1.length c0_1]] ?_; (with_reducible refine (YF.calls a0_0 _ _ l0_1 true _ ?side1 ?side2 A4.out).mono ?_); (case side1 => repeat (first | exact (Kd.C_below HR0_1.out HB.out) | (with_reducible refine Kd.C_alloc ?_ _) | (with_reducible refine Kd.C_drewN ?_ _) | (with_reducible refine Kd.C_drew ?_))); (case side2 => exact HC0_1.out); rintro e w11 ⟨rfl, hb⟩; refine ⟨_, rfl, ?_⟩; replace B_0 := Y0.mk (Y3 (bU B_0.out) hb); replace B_1 := Y0.mk (Y3 (bU B_1.out) hb); replace HB := Y0.mk (Y7 (hU HB.out) hb); (try clear hb); (try clear hb2); (try clear hk); (try clear hi)) | ((with_reducible refine Yd (f := 18) rfl ?_); refine goesA (some 15) Try.func18 #[] ?_; (with_reducible refine (Yb.calls k  t_0 _ A6.out).mono ?_); rintro e w12 ⟨rfl, hb⟩; refine ⟨_, rfl, ?_⟩; replace B_0 := Y0.mk (Y3 (bU B_0.out) hb); replace B_1 := Y0.mk (Y3 (bU B_1.out) hb); replace HB := Y0.mk (Y7 (hU HB.out) hb); (try clear hb); (try clear hb2); (try clear hk); (try clear hi)))
  go_ret
  exact ⟨reT, hU HB.out⟩
 ·replace c5 := Bool.eq_false_iff.mpr c5
  subst c5
  rw [if_neg (show ¬ (false = true) by decide)] at H
  obtain ⟨⟨t_5, t_4, t_3, t_1, t_2, t_7, t_6, t_i, t_k⟩, A130, H⟩ := bS H
  try dsimp only at H
  have A13 := Y0.mk A130
  clear A130
  obtain ⟨⟨t_b, t_a, t_8, t_c, t_f, t_d, t_9, t_h, t_j⟩, A140, H⟩ := bS H
  try dsimp only at H
  have A14 := Y0.mk A140
  clear A140
  by_cases c15 : (t_5 == t_b && (t_4 == t_a && (t_3 == t_8 && (t_1 == t_c && (t_2 == t_f && (t_7 == t_d && (t_6 == t_9))))))) = true
  rotate_left
  ·rw [if_neg c15] at H
   exact absurd H (by simp)
  rw [if_pos c15] at H
  have c15b0 : (t_5 == t_b && (t_4 == t_a && (t_3 == t_8 && (t_1 == t_c && (t_2 == t_f && (t_7 == t_d && (t_6 == t_9))))))) = true := c15
  (try (have c15b1 : decide (t_5 = t_b && (t_4 == t_a && (t_3 == t_8 && (t_1 == t_c && (t_2 == t_f && (t_7 == t_d && (t_6 == t_9))))))) = true := by simpa using c15))
  (try (have c15b2 : (t_5 == t_b && (t_4 == t_a && (t_3 == t_8 && (t_1 == t_c && (t_2 == t_f && (t_7 == t_d && (t_6 == t_9))))))) = true := by simpa using c15))
  clear c15
  obtain ⟨c16, H⟩ := iS H
  have c16b0 : (t_i == t_h) = true := c16
  (try (have c16b1 : decide (t_i = t_h) = true := by simpa using c16))
  (try (have c16b2 : (t_i == t_h) = true := by simpa using c16))
  clear c16
  obtain ⟨c17, H⟩ := iS H
  have c17b0 := bqT c17
  have c17b1 := bnF c17
  clear c17
  obtain ⟨t_e, A180, H⟩ := bS H
  replace H : (some t_e) = some r := H
  have A18 := Y0.mk A180
  clear A180
  obtain rfl := Option.some.inj H
  go_enter Try.func5, Try.ntmps5
  go_wp2_with (first | ((with_reducible refine Yf (N := 3) rfl ?_); refine Yg ?hg (N := 3) ?hd (cs := #[.int .i64 a0_0, .slice A0_1 l0_1.length c0_1]) (t := 24) ?hr ?_; (case hd => rfl); (case hg => rfl); (case hr => first | (go_simp; done) | (go_simp; rfl)); intro g_1 hg w19 hbox hb; have n0_ := Y0.mk (Y7 (hU HB.out) hb); have n1_ := Y0.mk (hbox); have n2_ := gE hg HB; have n3_ := gE hg HB; clear HB; have HB := n0_; have B_0 := n1_; have W_0 := n2_; have G_1 := n3_; clear n0_ n1_ n2_ n3_; clear hb hbox hg) | ((with_reducible refine Yf (N := 5) rfl ?_); refine Yg ?hg (N := 5) ?hd (cs := #[.int .i64 a2_0, .int .i64 a2_1]) (t := 26) ?hr ?_; (case hd => rfl); (case hg => rfl); (case hr => first | (go_simp; done) | (go_simp; rfl)); intro g_0 hg w20 hbox hb; have n0_ := Y0.mk (Y3 (bU B_0.out) hb); have n1_ := Y0.mk (Y7 (hU HB.out) hb); have n2_ := Y0.mk (hbox); have n3_ := gE hg HB; have n4_ := gE hg HB; have n5_ := gL hg B_0; have n6_ := gG hg B_0; clear B_0; clear HB; have B_0 := n0_; have HB := n1_; have B_1 := n2_; have W_1 := n3_; have G_0 := n4_; have N_1 := n5_; have N_0 := n6_; clear n0_ n1_ n2_ n3_ n4_ n5_ n6_; clear hb hbox hg; have hnb21 := N_1.out; have hnc21 := N_0.out; have z_1 := Y2 B_0.out; have f_5 := Y5 B_0.out) | ((with_reducible refine Yd (f := 22) rfl ?_); refine goesA (some 14) Try.func22 #[.agg #[.int .i64 a0_0, .slice A0_1 l0_1.length c0_1]] ?_; (with_reducible refine (YF.calls a0_0 _ _ l0_1 false _ ?side1 ?side2 A4.out).mono ?_); (case side1 => repeat (first | exact (Kd.C_below HR0_1.out HB.out) | (with_reducible refine Kd.C_alloc ?_ _) | (with_reducible refine Kd.C_drewN ?_ _) | (with_reducible refine Kd.C_drew ?_))); (case side2 => exact HC0_1.out); rintro e w23 ⟨rfl, hb⟩; refine ⟨_, rfl, ?_⟩; replace B_0 := Y0.mk (Y3 (bU B_0.out) hb); replace B_1 := Y0.mk (Y3 (bU B_1.out) hb); replace HB := Y0.mk (Y7 (hU HB.out) hb); (try clear hb); (try clear hb2); (try clear hk); (try clear hi); have z_5 := Y2 B_0.out; have f_4 := Y5 B_0.out; have z_3 := Y2 B_1.out; have f_3 := Y5 B_1.out) | ((with_reducible refine Yd (f := 27) rfl ?_); refine goesA (some 20) Try.func27 #[.agg #[.int .i64 a0_0, .slice A0_1 l0_1.length c0_1], .int .i64 a1, .agg #[.int .i64 a2_0, .int .i64 a2_1]] ?_; (with_reducible refine (Yy.calls a0_0 _ _ l0_1 a1 a2_0 a2_1 t_5 t_4 t_3 t_1 t_2 t_7 t_6 t_i t_k _ ?side1 ?side2 A13.out).mono ?_); (case side1 => repeat (first | exact (Kd.C_below HR0_1.out HB.out) | (with_reducible refine Kd.C_alloc ?_ _) | (with_reducible refine Kd.C_drewN ?_ _) | (with_reducible refine Kd.C_drew ?_))); (case side2 => exact HC0_1.out); rintro e w26 ⟨rfl, hb⟩; refine ⟨_, rfl, ?_⟩; replace B_0 := Y0.mk (Y3 (bU B_0.out) hb); replace B_1 := Y0.mk (Y3 (bU B_1.out) hb); replace HB := Y0.mk (Y7 (hU HB.out) hb); (try clear hb); (try clear hb2); (try clear hk); (try clear hi)) | ((with_reducible refine Yf (N := 7) rfl ?_); refine Yg ?hg (N := 7) ?hd (cs := #[.int .i64 0, .int .i64 0, .int .i64 0, .int .i64 0, .int .i64 0, .int .i64 0, .int .i64 0]) (t := 28) ?hr ?_; (case hd => rfl); (case hg => rfl); (case hr => first | (go_simp; done) | (go_simp; rfl)); intro g_2 hg w27 hbox hb; have n0_ := Y0.mk (Y3 (bU B_0.out) hb); have n1_ := Y0.mk (Y3 (bU B_1.out) hb); have n2_ := Y0.mk (Y7 (hU HB.out) hb); have n3_ := Y0.mk (hbox); have n4_ := gE hg HB; have n5_ := gE hg HB; have n6_ := gL hg B_0; have n7_ := gG hg B_0; have n8_ := gL hg B_1; have n9_ := gG hg B_1; clear B_0; clear B_1; clear HB; have B_0 := n0_; have B_1 := n1_; have HB := n2_; have B_2 := n3_; have W_3 := n4_; have G_3 := n5_; have N_2 := n6_; have N_b := n7_; have N_5 := n8_; have N_a := n9_; clear n0_ n1_ n2_ n3_ n4_ n5_ n6_ n7_ n8_ n9_; clear hb hbox hg; have hnb28 := N_b.out; have hnc28 := N_2.out; have hnb29 := N_a.out; have hnc29 := N_5.out; have z_4 := Y2 B_2.out; have f_1 := Y5 B_2.out; have z_2 := Y2 B_0.out; have f_0 := Y5 B_0.out; have z_8 := Y2 B_1.out; have f_7 := Y5 B_1.out) | ((with_reducible refine Yd (f := 28) rfl ?_); refine goesA (some 28) Try.func28 #[.agg #[.int .i64 a0_0, .slice A0_1 l0_1.length c0_1], .int .i64 a1, .agg #[.int .i64 a2_0, .int .i64 a2_1]] ?_; (with_reducible refine (Yv.calls k a0_0 _ _ l0_1 a1 a2_0 a2_1 t_b t_a t_8 t_c t_f t_d t_9 t_h t_j _ ?side1 ?side2 A14.out).mono ?_); (case side1 => exact Kd.C_below HR0_1.out (hU HB.out)); (case side2 => exact HC0_1.out); rintro e w33 ⟨rfl, hb⟩; refine ⟨_, rfl, ?_⟩; replace B_0 := Y0.mk (Y3 (g := g_1) (o := .cells #[.int .i64 a0_0, .slice A0_1 l0_1.length c0_1] 24 (0, 0)) (by (iterate 7 ((with_reducible repeat (first | refine Y8 ?_ _ | refine Y6 ?_ | refine Y4 ?_ _)); refine (Below.heap_setCell _ ⟨_, _, none⟩ _ _ N_2.out).trans ?_)); (with_reducible repeat (first | refine Y8 ?_ _ | refine Y6 ?_ | refine Y4 ?_ _)); exact B_0.out) hb); replace B_1 := Y0.mk (Y3 (g := g_0) (o := .cells #[.int .i64 a2_0, .int .i64 a2_1] 26 (0, 0)) (by (iterate 7 ((with_reducible repeat (first | refine Y8 ?_ _ | refine Y6 ?_ | refine Y4 ?_ _)); refine (Below.heap_setCell _ ⟨_, _, none⟩ _ _ N_5.out).trans ?_)); (with_reducible repeat (first | refine Y8 ?_ _ | refine Y6 ?_ | refine Y4 ?_ _)); exact B_1.out) hb); replace B_2 := Y0.mk (Y3 (g := g_2) (o := .cells #[.int .i64 t_5, .int .i64 t_4, .int .i64 t_3, .int .i64 t_1, .int .i64 t_2, .int .i64 t_7, .int .i64 t_6] 28 (0, 0)) (by (with_reducible repeat (first | refine Y8 ?_ _ | refine Y6 ?_ | refine Y4 ?_ _)); apply Yq; (iterate 6 ((with_reducible repeat (first | refine Y8 ?_ _ | refine Y6 ?_ | refine Y4 ?_ _)); apply Y1r)); (with_reducible repeat (first | refine Y8 ?_ _ | refine Y6 ?_ | refine Y4 ?_ _)); exact B_2.out; simp only [List.setIfInBounds_toArray, List.set_cons_zero, List.set_cons_succ]) hb); replace HB := Y0.mk (Y7 (hU HB.out) hb); (try clear hb); (try clear hb2); (try clear hk); (try clear hi)) | ((with_reducible refine Yf (N := 10) rfl ?_); refine Yg ?hg (N := 10) ?hd (cs := #[.int .i64 0, .int .i64 0, .int .i64 0, .int .i64 0, .int .i64 0, .int .i64 0, .int .i64 0]) (t := 28) ?hr ?_; (case hd => rfl); (case hg => rfl); (case hr => first | (go_simp; done) | (go_simp; rfl)); intro g_3 hg w34 hbox hb; have n0_ := Y0.mk (Y3 (bU B_0.out) hb); have n1_ := Y0.mk (Y3 (bU B_1.out) hb); have n2_ := Y0.mk (Y3 (bU B_2.out) hb); have n3_ := Y0.mk (Y7 (hU HB.out) hb); have n4_ := Y0.mk (hbox); have n5_ := gE hg HB; have n6_ := gE hg HB; have n7_ := gL hg B_0; have n8_ := gG hg B_0; have n9_ := gL hg B_1; have n10_ := gG hg B_1; have n11_ := gL hg B_2; have n12_ := gG hg B_2; clear B_0; clear B_1; clear B_2; clear HB; have B_0 := n0_; have B_1 := n1_; have B_2 := n2_; have HB := n3_; have B_3 := n4_; have W_2 := n5_; have G_2 := n6_; have N_3 := n7_; have N_9 := n8_; have N_4 := n9_; have N_7 := n10_; have N_6 := n11_; have N_8 := n12_; clear n0_ n1_ n2_ n3_ n4_ n5_ n6_ n7_ n8_ n9_ n10_ n11_ n12_; clear hb hbox hg; have hnb35 := N_9.out; have hnc35 := N_3.out; have hnb36 := N_7.out; have hnc36 := N_4.out; have hnb37 := N_8.out; have hnc37 := N_6.out; have z_7 := Y2 B_3.out; have f_2 := Y5 B_3.out; have z_0 := Y2 B_2.out; have f_8 := Y5 B_2.out) | (go_at_call 18; (with_reducible refine (Yb.calls k  t_e _ A18.out).mono ?_); rintro e w40 ⟨rfl, hb⟩; replace B_0 := Y0.mk (Y3 (g := g_1) (o := .cells #[.int .i64 a0_0, .slice A0_1 l0_1.length c0_1] 24 (0, 0)) (by (iterate 7 ((with_reducible repeat (first | refine Y8 ?_ _ | refine Y6 ?_ | refine Y4 ?_ _)); refine (Below.heap_setCell _ ⟨_, _, none⟩ _ _ N_3.out).trans ?_)); (with_reducible repeat (first | refine Y8 ?_ _ | refine Y6 ?_ | refine Y4 ?_ _)); exact B_0.out) hb); replace B_1 := Y0.mk (Y3 (g := g_0) (o := .cells #[.int .i64 a2_0, .int .i64 a2_1] 26 (0, 0)) (by (iterate 7 ((with_reducible repeat (first | refine Y8 ?_ _ | refine Y6 ?_ | refine Y4 ?_ _)); refine (Below.heap_setCell _ ⟨_, _, none⟩ _ _ N_4.out).trans ?_)); (with_reducible repeat (first | refine Y8 ?_ _ | refine Y6 ?_ | refine Y4 ?_ _)); exact B_1.out) hb); replace B_2 := Y0.mk (Y3 (g := g_2) (o := .cells #[.int .i64 t_5, .int .i64 t_4, .int .i64 t_3, .int .i64 t_1, .int .i64 t_2, .int .i64 t_7, .int .i64 t_6] 28 (0, 0)) (by (iterate 7 ((with_reducible repeat (first | refine Y8 ?_ _ | refine Y6 ?_ | refine Y4 ?_ _)); refine (Below.heap_setCell _ ⟨_, _, none⟩ _ _ N_6.out).trans ?_)); (with_reducible repeat (first | refine Y8 ?_ _ | refine Y6 ?_ | refine Y4 ?_ _)); exact B_2.out) hb); replace B_3 := Y0.mk (Y3 (g := g_3) (o := .cells #[.int .i64 t_b, .int .i64 t_a, .int .i64 t_8, .int .i64 t_c, .int .i64 t_f, .int .i64 t_d, .int .i64 t_9] 28 (0, 0)) (by (with_reducible repeat (first | refine Y8 ?_ _ | refine Y6 ?_ | refine Y4 ?_ _)); apply Yq; (iterate 6 ((with_reducible repeat (first | refine Y8 ?_ _ | refine Y6 ?_ | refine Y4 ?_ _)); apply Y1r)); (with_reducible repeat (first | refine Y8 ?_ _ | refine Y6 ?_ | refine Y4 ?_ _)); exact B_3.out; simp only [List.setIfInBounds_toArray, List.set_cons_zero, List.set_cons_succ]) hb); replace HB := Y0.mk (Y7 (hU HB.out) hb); (try clear hb); (try clear hb2); (try clear hk); (try clear hi)))
  go_ret
  exact ⟨reT, hU HB.out⟩
end Go.Proofs.Yteopkkoblbmggaa.P
end
section
set_option linter.unusedVariables false
set_option linter.unusedSimpArgs false
namespace Go.Proofs.Yteopkkoblbmggaa.P
open Go.RowKit Go.Proofs.YteopkkoblbmggaaW.PrintWords Go.Proofs.YteopkkoblbmggaaW.PrintLast Go.Proofs.YteopkkoblbmggaaW.PrintMore
def tup (y : S30) (ok : Bool) : Int × Int × Int × Int × Int × Bool × Int × Int × Int × Int × Int × Int × Int × Bool := (y.f0.f0, y.f0.f1, y.f1, y.f2.f0, y.f2.f1, y.f3, y.f4.f0, y.f4.f1, y.f4.f2, y.f4.f3, y.f4.f4, y.f4.f5, y.f4.f6, ok)
theorem Y2j (l : List S30) (hl : l.length ≤ 1000000) (p c d : Int) : ∀ (m i k : Nat) (o : Option S30), l.length - i = m → i ≤ l.length → m + 1 ≤ k → lasF l i p c d = o →
    Ys.l0 k l p o.isSome (i : Int) c d (o.getD z30).f0.f0 (o.getD z30).f0.f1 (o.getD z30).f1 (o.getD z30).f2.f0 (o.getD z30).f2.f1 (o.getD z30).f3 (o.getD z30).f4.f0 (o.getD z30).f4.f1 (o.getD z30).f4.f2 (o.getD z30).f4.f3 (o.getD z30).f4.f4 (o.getD z30).f4.f5 (o.getD z30).f4.f6 = some (tup ((lasF l l.length p c d).getD z30) (lasF l l.length p c d).isSome)
  | 0, i, k, o, hm, hi, hk, ho => by
    obtain ⟨k, rfl⟩ : ∃ j, k = j + 1 := ⟨k - 1, by omega⟩
    unfold Ys.l0
    rw [if_neg (by omega)]
    have : i = l.length := by omega
    subst this
    rw [ho]; rfl
  | m + 1, i, k, o, hm, hi, hk, ho => by
    obtain ⟨k, rfl⟩ : ∃ j, k = j + 1 := ⟨k - 1, by omega⟩
    have hil : i < l.length := by omega
    unfold Ys.l0
    rw [if_pos (by omega), if_pos (by omega), Y1G hil, show wrap64 ((i : Int) + 1) = ((i + 1 : Nat) : Int) by unfold wrap64; omega]
    have hstep : lasF l (i + 1) p c d = if p = l[i].f1 ∧ c = l[i].f2.f0 ∧ d = l[i].f2.f1 then some l[i] else o := by
      rw [lasF, dif_pos hil, ho]
    by_cases h1 : l[i].f1 = p
    · rw [if_pos h1]
      by_cases h2 : l[i].f2.f0 = c ∧ l[i].f2.f1 = d
      · rw [if_pos (by simp [h2.1, h2.2])]
        rw [if_pos ⟨h1.symm, h2.1.symm, h2.2.symm⟩] at hstep
        exact Y2j l hl p c d m (i + 1) k (some l[i]) (by omega) (by omega) (by omega) hstep
      · rw [if_neg (by simp; intro a b; exact h2 ⟨a, b⟩)]
        rw [if_neg (fun q => h2 ⟨q.2.1.symm, q.2.2.symm⟩)] at hstep
        exact Y2j l hl p c d m (i + 1) k o (by omega) (by omega) (by omega) hstep
    · rw [if_neg h1]
      rw [if_neg (fun q => h1 q.1.symm)] at hstep
      exact Y2j l hl p c d m (i + 1) k o (by omega) (by omega) (by omega) hstep
theorem Y4Q (k : Nat) (l : List S30) (hl : l.length ≤ 1000000) (p c d : Int) (hk : l.length + 1 ≤ k) : Ys.f k l p c d = some (tup ((lasF l l.length p c d).getD z30) (lasF l l.length p c d).isSome) :=
  Y2j l hl p c d l.length 0 k none (by omega) (by omega) hk rfl
theorem Y4E {e : S30} (h : chk30 e = 0) (hd : e.f3 = true) : e.f4.f0 = 0 ∧ e.f4.f1 = 0 ∧ e.f4.f2 = 0 ∧ e.f4.f3 = 0 ∧ e.f4.f4 = 0 ∧ e.f4.f5 = 0 ∧ e.f4.f6 = 0 := by
  unfold chk30 chkE at h
  rw [hd] at h
  split at h
  · cases h
  · split at h
    · cases h
    · rw [if_pos rfl] at h
      split at h
      · assumption
      · cases h
theorem Y5h (k : Nat) (d : Int) (l : List S30) (hl : l.length ≤ 1000000) (p c e : Int) (hk : 4 * l.length + 20 ≤ k) :
    Yv.f k d l p c e = some (if rchkP d l = 0 then valR l p c e else (0, 0, 0, 0, 0, 0, 0, false, rchkP d l)) := by
  unfold Yv.f
  rw [Y4m k d l hl hk, Option.bind_some]
  by_cases h : rchkP d l = 0
  · rw [if_pos h, if_pos h, Y4Q k l hl p c e (by omega), Option.bind_some]
    unfold valR tup
    cases hq : lasF l l.length p c e with
    | none => rfl
    | some x =>
      simp only [Option.getD_some, Option.isSome_some, if_true]
      have hm := Y2g hq
      cases hx : x.f3 with
      | false => rfl
      | true =>
        obtain ⟨e0, e1, e2, e3, e4, e5, e6⟩ := Y4E (Y3C h x hm.1) hx
        simp [e0, e1, e2, e3, e4, e5, e6]
  · rw [if_neg h, if_neg h]
end Go.Proofs.Yteopkkoblbmggaa.P
end
section
set_option linter.unusedVariables false
set_option linter.unusedSimpArgs false
namespace Go.Proofs.Yteopkkoblbmggaa.Pure
open Go.RowKit Go.Proofs.Yteopkkoblbmggaa.P Go.Proofs.Yteopkkoblbmggaa.Open Go.Proofs.YteopkkoblbmggaaW.PrintWords Go.Proofs.YteopkkoblbmggaaW.PrintLast Go.Proofs.YteopkkoblbmggaaW.PrintMore
theorem ReplicaValue (a0_0 : Int) (l0_1 : List S30) (a1 : Int) (a2_0 : Int) (a2_1 : Int) (w0_0 : okI a0_0) (w0_1 : l0_1.length ≤ maxLen ∧ l0_1.length * 104 ≤ 140737488351232 ∧ ∀ y ∈ l0_1, zT30 y) (w1 : okI a1) (w2_0 : okI a2_0) (w2_1 : okI a2_1) : ∃ k, YI.f k a0_0 l0_1 a1 a2_0 a2_1 = some true := by
  refine ⟨6000, ?_⟩
  unfold YI.f
  rw [Y3B, Option.bind_some]
  by_cases hl : 40 < l0_1.length
  · rw [if_pos (by simpa using hl), Y1R 6000 (by decide)]; rfl
  · rw [if_neg (by simpa using hl), Y5h 6000 a0_0 l0_1 (by omega) a1 a2_0 a2_1 (by omega)]
    unfold Yy.f
    rw [if_pos ⟨fun e he => zT_ok (w0_1.2.2 e he), zN_ok w1, zN_ok w2_0, zN_ok w2_1⟩]
    have hv : (if rchkP a0_0 l0_1 = 0 then some (valR l0_1 a1 a2_0 a2_1) else some (0, 0, 0, 0, 0, 0, 0, false, rchkP a0_0 l0_1)) = some (if rchkP a0_0 l0_1 = 0 then valR l0_1 a1 a2_0 a2_1 else (0, 0, 0, 0, 0, 0, 0, false, rchkP a0_0 l0_1)) := by split <;> rfl
    rw [hv, Option.bind_some, Option.bind_some]
    generalize (if rchkP a0_0 l0_1 = 0 then valR l0_1 a1 a2_0 a2_1 else (0, 0, 0, 0, 0, 0, 0, false, rchkP a0_0 l0_1)) = v
    rw [if_pos (by simp), if_pos (by simp), if_pos rfl, Y1R 6000 (by decide)]
    rfl
end Go.Proofs.Yteopkkoblbmggaa.Pure
end

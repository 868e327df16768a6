/- Texts of this claim in one: VP37, VOpen, VAwakeR, VRSymP, VRPutP; no condition. -/
import Derived.Test.YteopkkoblbmggaaGreatQZAC
import Derived.Test.YteopkkoblbmggaaGreatQZAE
import Derived.Test.YteopkkoblbmggaaGreatQZAF
import Derived.Test.YteopkkoblbmggaaGreatQZAP
import Derived.Test.YteopkkoblbmggaaGreatQZAR
import Derived.Test.YteopkkoblbmggaaGreatQZAW
import Derived.Test.YteopkkoblbmggaaGreatQZAX
import Derived.Test.YteopkkoblbmggaaGreatQZAY
import Derived.Test.YteopkkoblbmggaaGreatQZAB
import Derived.OpenShut
import Derived.SizedLaws
import Derived.ChangeArms
import Derived.Test.YteopkkoblbmggaaGreatQZAS
import Derived.Test.YteopkkoblbmggaaGreatQZAH
section
namespace Go.Proofs.YteopkkoblbmggaaGreat.P
open Go.RowKit Go.Proofs.YteopkkoblbmggaaGreatW.PrintWords Go.Proofs.YteopkkoblbmggaaGreatW.PrintLast Go.Proofs.YteopkkoblbmggaaGreatW.PrintMore
attribute [local go_sem] YW YY Y19 Y1a YM YN YX YZ
set_option linter.unusedVariables false
set_option linter.unusedSimpArgs false
def YG.f (k : Nat) (a0_0 : Int) (l0_1 : List (S52)) (a1_0 : Int) (l1_1 : List (S52)) : Option (Bool) := (YK.f a0_0 l0_1).bind fun t_a => (if t_a = true then ((Yb.f k).bind fun t_3 => (some t_3)) else ((YK.f a1_0 l1_1).bind fun t_8 => (if t_8 = true then ((Yb.f k).bind fun t_4 => (some t_4)) else ((Ya.f k a0_0 l0_1 a1_0 l1_1).bind fun b_1 => ((Yc.f k a0_0 l0_1 a1_0 l1_1).bind fun b_0 => ((Yw.f k a0_0 l0_1 a1_0 l1_1).bind fun b_3 => ((Yh.f k a0_0 l0_1 a1_0 l1_1).bind fun b_2 => ((YL.f k b_1.1 b_1.2.1 b_0.1 b_0.2.1).bind fun t_9 => (if t_9 = true then (if b_1.2.2 = b_0.2.2 then ((Yl.f k b_3.1 b_2.1).bind fun t_7 => (if t_7 = true then (if b_3.2 = b_2.2 then ((Yb.f k).bind fun t_0 => (some t_0)) else (none)) else (none))) else (none)) else (none))))))))))
theorem YG.mono : ∀ a0 a1 a2 a3 k, LeO (YG.f k a0 a1 a2 a3) (YG.f (k + 1) a0 a1 a2 a3) := by
 intro a0 a1 a2 a3 k; unfold YG.f
 repeat' first
   | (with_reducible exact Yb.mono _)
   | (with_reducible exact Yc.mono _ _ _ _ _)
   | (with_reducible exact Yh.mono _ _ _ _ _)
   | (with_reducible exact YL.mono _ _ _ _ _)
   | (with_reducible exact Yl.mono _ _ _)
   | (with_reducible exact Ya.mono _ _ _ _ _)
   | (with_reducible exact Yw.mono _ _ _ _ _)
   | (with_reducible exact LeO.refl _)
   | (with_reducible exact LeO.none _)
   | (with_reducible refine LeO.ite ?_ ?_)
   | (with_reducible refine LeO.bind ?_ (fun _ => ?_))
set_option maxHeartbeats 8000000 in
set_option maxRecDepth 100000 in
theorem YG.calls (k : Nat) (a0_0 : Int) (A0_1 : Option Addr) (c0_1 : Nat) (l0_1 : List (S52)) (a1_0 : Int) (A1_1 : Option Addr) (c1_1 : Nat) (l1_1 : List (S52)) (r : Bool) (w : World) (hr0_1 : Kd.C k52 w A0_1 l0_1.length l0_1) (hc0_1 : l0_1.length ≤ c0_1) (hr1_1 : Kd.C k52 w A1_1 l1_1.length l1_1) (hc1_1 : l1_1.length ≤ c1_1) (h : YG.f k a0_0 l0_1 a1_0 l1_1 = some r) :
  Calls Tryz.prog 3 #[.agg #[.int .i64 a0_0, .slice A0_1 l0_1.length c0_1], .agg #[.int .i64 a1_0, .slice A1_1 l1_1.length c1_1]] w fun e w' => e = .returned (.bool r) ∧ Below w.heap.size w w' := by
 have hu24 := Tryz.underlying24; have HR0_1 := Y0.mk hr0_1; have HC0_1 := Y0.mk hc0_1; clear hr0_1 hc0_1; have HR1_1 := Y0.mk hr1_1; have HC1_1 := Y0.mk hc1_1; clear hr1_1 hc1_1; have HB := Y0.mk (Below.refl w.heap.size w); have H : ((YK.f a0_0 l0_1).bind fun t_a => (if t_a = true then ((Yb.f k).bind fun t_3 => (some t_3)) else ((YK.f a1_0 l1_1).bind fun t_8 => (if t_8 = true then ((Yb.f k).bind fun t_4 => (some t_4)) else ((Ya.f k a0_0 l0_1 a1_0 l1_1).bind fun b_1 => ((Yc.f k a0_0 l0_1 a1_0 l1_1).bind fun b_0 => ((Yw.f k a0_0 l0_1 a1_0 l1_1).bind fun b_3 => ((Yh.f k a0_0 l0_1 a1_0 l1_1).bind fun b_2 => ((YL.f k b_1.1 b_1.2.1 b_0.1 b_0.2.1).bind fun t_9 => (if t_9 = true then (if b_1.2.2 = b_0.2.2 then ((Yl.f k b_3.1 b_2.1).bind fun t_7 => (if t_7 = true then (if b_3.2 = b_2.2 then ((Yb.f k).bind fun t_0 => (some t_0)) else (none)) else (none))) else (none)) else (none))))))))))) = some r := h; clear h; obtain ⟨t_a, A30, H⟩ := bS H; try dsimp only at H
 have A3 := Y0.mk A30; clear A30; by_cases c4 : t_a = true
 ·subst c4; have H1 : ((Yb.f k).bind fun t_3 => (some t_3)) = some r := by rw [if_pos rfl] at H; exact H
  clear H; have H := H1; clear H1; obtain ⟨t_3, A50, H⟩ := bS H; replace H : (some t_3) = some r := H; have A5 := Y0.mk A50; clear A50; obtain rfl := Option.some.inj H; go_enter Tryz.func3, Tryz.ntmps3
  go_wp2_with (first | ((with_reducible refine Yf (N := 2) rfl ?_); refine Yi ?hg (N := 2) ?hd (cs := #[.int .i64 a0_0, .slice A0_1 l0_1.length c0_1]) (t := 24) ?hr ?_; (case hd => rfl); (case hg => rfl); (case hr => first | (go_simp; done) | (go_simp; rfl)); intro g_3 hg w6 hbox hb; have n0_ := Y0.mk (Y5 (hU HB.out) hb); have n1_ := Y0.mk (hbox); have n2_ := gE hg HB; have n3_ := gE hg HB; clear HB; have HB := n0_; have B_0 := n1_; have W_0 := n2_; have G_1 := n3_; clear n0_ n1_ n2_ n3_; clear hb hbox hg) | ((with_reducible refine Yf (N := 3) rfl ?_); refine Yi ?hg (N := 3) ?hd (cs := #[.int .i64 a1_0, .slice A1_1 l1_1.length c1_1]) (t := 24) ?hr ?_; (case hd => rfl); (case hg => rfl); (case hr => first | (go_simp; done) | (go_simp; rfl)); intro g_2 hg w7 hbox hb; have n0_ := Y0.mk (Y3 (bU B_0.out) hb); have n1_ := Y0.mk (Y5 (hU HB.out) hb); have n2_ := Y0.mk (hbox); have n3_ := gE hg HB; have n4_ := gE hg HB; have n5_ := gL hg B_0; have n6_ := gG hg B_0; clear B_0; clear HB; have B_0 := n0_; have HB := n1_; have B_1 := n2_; have W_1 := n3_; have G_0 := n4_; have N_1 := n5_; have N_0 := n6_; clear n0_ n1_ n2_ n3_ n4_ n5_ n6_; clear hb hbox hg; have hnb8 := N_1.out; have hnc8 := N_0.out; have z_g := Y2 B_0.out; have f_2 := Y4 B_0.out) | ((with_reducible refine Ye (f := 4) rfl ?_); refine goesA (some 14) Tryz.func4 #[.agg #[.int .i64 a0_0, .slice A0_1 l0_1.length c0_1]] ?_; (with_reducible refine (YK.calls a0_0 _ _ l0_1 true _ ?side1 ?side2 A3.out).mono ?_); (case side1 => repeat (first | exact (Kd.C_below HR0_1.out HB.out) | (with_reducible refine Kd.C_alloc ?_ _) | (with_reducible refine Kd.C_drewN ?_ _) | (with_reducible refine Kd.C_drew ?_))); (case side2 => exact HC0_1.out); rintro e w10 ⟨rfl, hb⟩; refine ⟨_, rfl, ?_⟩; replace B_0 := Y0.mk (Y3 (bU B_0.out) hb); replace B_1 := Y0.mk (Y3 (bU B_1.out) hb); replace HB := Y0.mk (Y5 (hU HB.out) hb); (try clear hb); (try clear hk)) | ((with_reducible refine Ye (f := 5) rfl ?_); refine goesA (some 19) Tryz.func5 #[] ?_; (with_reducible refine (Yb.calls k  t_3 _ A5.out).mono ?_); rintro e w11 ⟨rfl, hb⟩; refine ⟨_, rfl, ?_⟩; replace B_0 := Y0.mk (Y3 (bU B_0.out) hb); replace B_1 := Y0.mk (Y3 (bU B_1.out) hb); replace HB := Y0.mk (Y5 (hU HB.out) hb); (try clear hb); (try clear hk)))
  go_ret
  exact ⟨reT, hU HB.out⟩
 ·replace c4 := Bool.eq_false_iff.mpr c4; subst c4; rw [if_neg (show ¬ (false = true) by decide)] at H; obtain ⟨t_8, A120, H⟩ := bS H; try dsimp only at H
  have A12 := Y0.mk A120; clear A120; by_cases c13 : t_8 = true
  ·subst c13; have H1 : ((Yb.f k).bind fun t_4 => (some t_4)) = some r := by rw [if_pos rfl] at H; exact H
   clear H; have H := H1; clear H1; obtain ⟨t_4, A140, H⟩ := bS H; replace H : (some t_4) = some r := H; have A14 := Y0.mk A140; clear A140; obtain rfl := Option.some.inj H; go_enter Tryz.func3, Tryz.ntmps3
   go_wp2_with (first | ((with_reducible refine Yf (N := 2) rfl ?_); refine Yi ?hg (N := 2) ?hd (cs := #[.int .i64 a0_0, .slice A0_1 l0_1.length c0_1]) (t := 24) ?hr ?_; (case hd => rfl); (case hg => rfl); (case hr => first | (go_simp; done) | (go_simp; rfl)); intro g_3 hg w15 hbox hb; have n0_ := Y0.mk (Y5 (hU HB.out) hb); have n1_ := Y0.mk (hbox); have n2_ := gE hg HB; have n3_ := gE hg HB; clear HB; have HB := n0_; have B_0 := n1_; have W_0 := n2_; have G_1 := n3_; clear n0_ n1_ n2_ n3_; clear hb hbox hg) | ((with_reducible refine Yf (N := 3) rfl ?_); refine Yi ?hg (N := 3) ?hd (cs := #[.int .i64 a1_0, .slice A1_1 l1_1.length c1_1]) (t := 24) ?hr ?_; (case hd => rfl); (case hg => rfl); (case hr => first | (go_simp; done) | (go_simp; rfl)); intro g_2 hg w16 hbox hb; have n0_ := Y0.mk (Y3 (bU B_0.out) hb); have n1_ := Y0.mk (Y5 (hU HB.out) hb); have n2_ := Y0.mk (hbox); have n3_ := gE hg HB; have n4_ := gE hg HB; have n5_ := gL hg B_0; have n6_ := gG hg B_0; clear B_0; clear HB; have B_0 := n0_; have HB := n1_; have B_1 := n2_; have W_1 := n3_; have G_0 := n4_; have N_1 := n5_; have N_0 := n6_; clear n0_ n1_ n2_ n3_ n4_ n5_ n6_; clear hb hbox hg; have hnb17 := N_1.out; have hnc17 := N_0.out; have z_1 := Y2 B_0.out; have f_d := Y4 B_0.out) | ((with_reducible refine Ye (f := 4) rfl ?_); refine goesA (some 14) Tryz.func4 #[.agg #[.int .i64 a0_0, .slice A0_1 l0_1.length c0_1]] ?_; (with_reducible refine (YK.calls a0_0 _ _ l0_1 false _ ?side1 ?side2 A3.out).mono ?_); (case side1 => repeat (first | exact (Kd.C_below HR0_1.out HB.out) | (with_reducible refine Kd.C_alloc ?_ _) | (with_reducible refine Kd.C_drewN ?_ _) | (with_reducible refine Kd.C_drew ?_))); (case side2 => exact HC0_1.out); rintro e w19 ⟨rfl, hb⟩; refine ⟨_, rfl, ?_⟩; replace B_0 := Y0.mk (Y3 (bU B_0.out) hb); replace B_1 := Y0.mk (Y3 (bU B_1.out) hb); replace HB := Y0.mk (Y5 (hU HB.out) hb); (try clear hb); (try clear hk); have z_b := Y2 B_1.out; have f_6 := Y4 B_1.out) | (go_at_call 4; (with_reducible refine (YK.calls a1_0 _ _ l1_1 true _ ?side1 ?side2 A12.out).mono ?_); (case side1 => repeat (first | exact (Kd.C_below HR1_1.out HB.out) | (with_reducible refine Kd.C_alloc ?_ _) | (with_reducible refine Kd.C_drewN ?_ _) | (with_reducible refine Kd.C_drew ?_))); (case side2 => exact HC1_1.out); rintro e w21 ⟨rfl, hb⟩; replace B_0 := Y0.mk (Y3 (bU B_0.out) hb); replace B_1 := Y0.mk (Y3 (bU B_1.out) hb); replace HB := Y0.mk (Y5 (hU HB.out) hb); (try clear hb); (try clear hk)) | ((with_reducible refine Ye (f := 5) rfl ?_); refine goesA (some 19) Tryz.func5 #[] ?_; (with_reducible refine (Yb.calls k  t_4 _ A14.out).mono ?_); rintro e w22 ⟨rfl, hb⟩; refine ⟨_, rfl, ?_⟩; replace B_0 := Y0.mk (Y3 (bU B_0.out) hb); replace B_1 := Y0.mk (Y3 (bU B_1.out) hb); replace HB := Y0.mk (Y5 (hU HB.out) hb); (try clear hb); (try clear hk)))
   go_ret
   exact ⟨reT, hU HB.out⟩
  ·replace c13 := Bool.eq_false_iff.mpr c13; subst c13; rw [if_neg (show ¬ (false = true) by decide)] at H; obtain ⟨⟨t_5, t_6, t_g⟩, A230, H⟩ := bS H; try dsimp only at H
   have A23 := Y0.mk A230; clear A230; obtain ⟨⟨t_1, t_2, t_f⟩, A240, H⟩ := bS H; try dsimp only at H
   have A24 := Y0.mk A240; clear A240; obtain ⟨⟨t_e, t_c⟩, A250, H⟩ := bS H; try dsimp only at H
   have A25 := Y0.mk A250; clear A250; obtain ⟨⟨t_d, t_b⟩, A260, H⟩ := bS H; try dsimp only at H
   have A26 := Y0.mk A260; clear A260; obtain ⟨t_9, A270, H⟩ := bS H; try dsimp only at H
   have A27 := Y0.mk A270; clear A270; by_cases c28 : t_9 = true
   rotate_left
   ·replace c28 := Bool.eq_false_iff.mpr c28; subst c28; have H1 : (none) = some r := by rw [if_neg (show ¬ (false = true) by decide)] at H; exact H
    clear H; have H := H1; clear H1; exact absurd H (by simp)
   subst c28; rw [if_pos rfl] at H; obtain ⟨c29, H⟩ := iS H; have c29b0 := bqT c29; have c29b1 := bnF c29; clear c29; obtain ⟨t_7, A300, H⟩ := bS H; replace H : (if t_7 = true then (if t_c = t_b then ((Yb.f k).bind fun t_0 => (some t_0)) else (none)) else (none)) = some r := H; have A30 := Y0.mk A300; clear A300; by_cases c31 : t_7 = true
   rotate_left
   ·replace c31 := Bool.eq_false_iff.mpr c31; subst c31; have H1 : (none) = some r := by rw [if_neg (show ¬ (false = true) by decide)] at H; exact H
    clear H; have H := H1; clear H1; exact absurd H (by simp)
   subst c31; have H1 : (if t_c = t_b then ((Yb.f k).bind fun t_0 => (some t_0)) else (none)) = some r := by rw [if_pos rfl] at H; exact H
   clear H; have H := H1; clear H1; obtain ⟨c32, H⟩ := iS H; have c32b0 := bqT c32; have c32b1 := bnF c32; clear c32; obtain ⟨t_0, A330, H⟩ := bS H; replace H : (some t_0) = some r := H; have A33 := Y0.mk A330; clear A330; obtain rfl := Option.some.inj H; go_enter Tryz.func3, Tryz.ntmps3
   go_wp2_with (first | ((with_reducible refine Yf (N := 2) rfl ?_); refine Yi ?hg (N := 2) ?hd (cs := #[.int .i64 a0_0, .slice A0_1 l0_1.length c0_1]) (t := 24) ?hr ?_; (case hd => rfl); (case hg => rfl); (case hr => first | (go_simp; done) | (go_simp; rfl)); intro g_3 hg w34 hbox hb; have n0_ := Y0.mk (Y5 (hU HB.out) hb); have n1_ := Y0.mk (hbox); have n2_ := gE hg HB; have n3_ := gE hg HB; clear HB; have HB := n0_; have B_0 := n1_; have W_0 := n2_; have G_1 := n3_; clear n0_ n1_ n2_ n3_; clear hb hbox hg) | ((with_reducible refine Yf (N := 3) rfl ?_); refine Yi ?hg (N := 3) ?hd (cs := #[.int .i64 a1_0, .slice A1_1 l1_1.length c1_1]) (t := 24) ?hr ?_; (case hd => rfl); (case hg => rfl); (case hr => first | (go_simp; done) | (go_simp; rfl)); intro g_2 hg w35 hbox hb; have n0_ := Y0.mk (Y3 (bU B_0.out) hb); have n1_ := Y0.mk (Y5 (hU HB.out) hb); have n2_ := Y0.mk (hbox); have n3_ := gE hg HB; have n4_ := gE hg HB; have n5_ := gL hg B_0; have n6_ := gG hg B_0; clear B_0; clear HB; have B_0 := n0_; have HB := n1_; have B_1 := n2_; have W_1 := n3_; have G_0 := n4_; have N_1 := n5_; have N_0 := n6_; clear n0_ n1_ n2_ n3_ n4_ n5_ n6_; clear hb hbox hg; have hnb36 := N_1.out; have hnc36 := N_0.out; have z_8 := Y2 B_0.out; have f_5 := Y4 B_0.out) | ((with_reducible refine Ye (f := 4) rfl ?_); refine goesA (some 14) Tryz.func4 #[.agg #[.int .i64 a0_0, .slice A0_1 l0_1.length c0_1]] ?_; (with_reducible refine (YK.calls a0_0 _ _ l0_1 false _ ?side1 ?side2 A3.out).mono ?_); (case side1 => repeat (first | exact (Kd.C_below HR0_1.out HB.out) | (with_reducible refine Kd.C_alloc ?_ _) | (with_reducible refine Kd.C_drewN ?_ _) | (with_reducible refine Kd.C_drew ?_))); (case side2 => exact HC0_1.out); rintro e w38 ⟨rfl, hb⟩; refine ⟨_, rfl, ?_⟩; replace B_0 := Y0.mk (Y3 (bU B_0.out) hb); replace B_1 := Y0.mk (Y3 (bU B_1.out) hb); replace HB := Y0.mk (Y5 (hU HB.out) hb); (try clear hb); (try clear hk); have z_0 := Y2 B_1.out; have f_0 := Y4 B_1.out) | (go_at_call 4; (with_reducible refine (YK.calls a1_0 _ _ l1_1 false _ ?side1 ?side2 A12.out).mono ?_); (case side1 => repeat (first | exact (Kd.C_below HR1_1.out HB.out) | (with_reducible refine Kd.C_alloc ?_ _) | (with_reducible refine Kd.C_drewN ?_ _) | (with_reducible refine Kd.C_drew ?_))); (case side2 => exact HC1_1.out); rintro e w40 ⟨rfl, hb⟩; replace B_0 := Y0.mk (Y3 (bU B_0.out) hb); replace B_1 := Y0.mk (Y3 (bU B_1.out) hb); replace HB := Y0.mk (Y5 (hU HB.out) hb); (try clear hb); (try clear hk); have z_f := Y2 B_0.out; have f_g := Y4 B_0.out; have z_d := Y2 B_1.out; have f_1 := Y4 B_1.out) | ((with_reducible refine Ye (f := 6) rfl ?_); refine goesA (some 23) Tryz.func6 #[.agg #[.int .i64 a0_0, .slice A0_1 l0_1.length c0_1], .agg #[.int .i64 a1_0, .slice A1_1 l1_1.length c1_1]] ?_; (with_reducible refine (Ya.calls k a0_0 _ _ l0_1 a1_0 _ _ l1_1 t_5 t_6 t_g _ ?side1 ?side2 ?side3 ?side4 A23.out).mono ?_); (case side1 => repeat (first | exact (Kd.C_below HR0_1.out HB.out) | (with_reducible refine Kd.C_alloc ?_ _) | (with_reducible refine Kd.C_drewN ?_ _) | (with_reducible refine Kd.C_drew ?_))); (case side2 => exact HC0_1.out); (case side3 => repeat (first | exact (Kd.C_below HR1_1.out HB.out) | (with_reducible refine Kd.C_alloc ?_ _) | (with_reducible refine Kd.C_drewN ?_ _) | (with_reducible refine Kd.C_drew ?_))); (case side4 => exact HC1_1.out); rintro e w43 ⟨v_2, rfl, ho0, hb⟩; refine ⟨_, rfl, ?_⟩; replace O_0 := Y0.mk (Kd.R_lower ho0 (Ym (hU HB.out))); replace B_0 := Y0.mk (Y3 (bU B_0.out) hb); replace B_1 := Y0.mk (Y3 (bU B_1.out) hb); replace HB := Y0.mk (Y5 (hU HB.out) hb); (try clear hb); (try clear hk); (try clear ho0)) | ((with_reducible refine Yf (N := 5) rfl ?_); refine Yi ?hg (N := 5) ?hd (cs := #[.int .i64 0, .slice none 0 0]) (t := 24) ?hr ?_; (case hd => rfl); (case hg => rfl); (case hr => first | (go_simp; done) | (go_simp; rfl)); intro g_1 hg w44 hbox hb; have n0_ := Y0.mk (Kd.R_below (Kd.rU O_0.out) hb); have n1_ := Y0.mk (Y3 (bU B_0.out) hb); have n2_ := Y0.mk (Y3 (bU B_1.out) hb); have n3_ := Y0.mk (Y5 (hU HB.out) hb); have n4_ := Y0.mk (hbox); have n5_ := gE hg HB; have n6_ := gE hg HB; have n7_ := gL hg B_0; have n8_ := gG hg B_0; have n9_ := gL hg B_1; have n10_ := gG hg B_1; clear O_0; clear B_0; clear B_1; clear HB; have O_0 := n0_; have B_0 := n1_; have B_1 := n2_; have HB := n3_; have B_2 := n4_; have W_3 := n5_; have G_2 := n6_; have N_5 := n7_; have N_9 := n8_; have N_4 := n9_; have N_b := n10_; clear n0_ n1_ n2_ n3_ n4_ n5_ n6_ n7_ n8_ n9_ n10_; clear hb hbox hg; have hnb45 := N_9.out; have hnc45 := N_5.out; have hnb46 := N_b.out; have hnc46 := N_4.out; have z_7 := Y2 B_2.out; have f_8 := Y4 B_2.out; obtain ⟨Ao48, co48, eo48⟩ := Kd.R_slice O_0.out; subst eo48; have z_9 := Y2 B_0.out; have f_3 := Y4 B_0.out; have z_c := Y2 B_1.out; have f_f := Y4 B_1.out) | ((with_reducible refine Ye (f := 7) rfl ?_); refine goesA (some 29) Tryz.func7 #[.agg #[.int .i64 a0_0, .slice A0_1 l0_1.length c0_1], .agg #[.int .i64 a1_0, .slice A1_1 l1_1.length c1_1]] ?_; (with_reducible refine (Yc.calls k a0_0 _ _ l0_1 a1_0 _ _ l1_1 t_1 t_2 t_f _ ?side1 ?side2 ?side3 ?side4 A24.out).mono ?_); (case side1 => exact Kd.C_below HR0_1.out (hU HB.out)); (case side2 => exact HC0_1.out); (case side3 => exact Kd.C_below HR1_1.out (hU HB.out)); (case side4 => exact HC1_1.out); rintro e w51 ⟨v_1, rfl, ho0, hb⟩; refine ⟨_, rfl, ?_⟩; replace O_1 := Y0.mk (Kd.R_lower (Kd.R_new' ho0 (Kd.R_lt (by (with_reducible repeat (first | apply Kd.R_alloc | apply Kd.R_drewN | apply Kd.R_drew)); exact (Kd.R_mono (rf2 (g := g_1) (Kd.R_types O_0.out B_2.out (by decide)) (fun _ hk => hk.2)) (fun _ h_ => h_.1))))) (Ym (hU HB.out))); replace O_0 := Y0.mk (Kd.R_elder' (by (with_reducible repeat (first | apply Kd.R_alloc | apply Kd.R_drewN | apply Kd.R_drew)); exact (Kd.R_mono (rf2 (g := g_1) (Kd.R_types O_0.out B_2.out (by decide)) (fun _ hk => hk.2)) (fun _ h_ => h_.1))) (Kd.R_base ho0) hb); replace B_0 := Y0.mk (Y3 (g := g_3) (o := .cells #[.int .i64 a0_0, .slice A0_1 l0_1.length c0_1] 24 (0, 0)) (by (with_reducible repeat (first | refine Y9 ?_ _ | refine Y7 ?_ | refine Y8 ?_ _)); refine (Below.heap_setCell _ ⟨_, _, none⟩ _ _ N_5.out).trans ?_; (with_reducible repeat (first | refine Y9 ?_ _ | refine Y7 ?_ | refine Y8 ?_ _)); refine (Below.heap_setCell _ ⟨_, _, none⟩ _ _ N_5.out).trans ?_; (with_reducible repeat (first | refine Y9 ?_ _ | refine Y7 ?_ | refine Y8 ?_ _)); exact B_0.out) hb); replace B_1 := Y0.mk (Y3 (g := g_2) (o := .cells #[.int .i64 a1_0, .slice A1_1 l1_1.length c1_1] 24 (0, 0)) (by (with_reducible repeat (first | refine Y9 ?_ _ | refine Y7 ?_ | refine Y8 ?_ _)); refine (Below.heap_setCell _ ⟨_, _, none⟩ _ _ N_4.out).trans ?_; (with_reducible repeat (first | refine Y9 ?_ _ | refine Y7 ?_ | refine Y8 ?_ _)); refine (Below.heap_setCell _ ⟨_, _, none⟩ _ _ N_4.out).trans ?_; (with_reducible repeat (first | refine Y9 ?_ _ | refine Y7 ?_ | refine Y8 ?_ _)); exact B_1.out) hb); replace B_2 := Y0.mk (Y3 (g := g_1) (o := .cells #[.int .i64 t_5, .slice Ao48 t_6.length co48] 24 (0, 0)) (by (with_reducible repeat (first | refine Y9 ?_ _ | refine Y7 ?_ | refine Y8 ?_ _)); refine Yt (cs := #[.int .i64 t_5, .slice none 0 0]) ?_ 1 _ rfl; (with_reducible repeat (first | refine Y9 ?_ _ | refine Y7 ?_ | refine Y8 ?_ _)); refine Yt (cs := #[.int .i64 0, .slice none 0 0]) ?_ 0 _ rfl; (with_reducible repeat (first | refine Y9 ?_ _ | refine Y7 ?_ | refine Y8 ?_ _)); exact B_2.out) hb); replace HB := Y0.mk (Y5 (hU HB.out) hb); (try clear hb); (try clear hk); (try clear ho0)) | ((with_reducible refine Yf (N := 7) rfl ?_); refine Yi ?hg (N := 7) ?hd (cs := #[.int .i64 0, .slice none 0 0]) (t := 24) ?hr ?_; (case hd => rfl); (case hg => rfl); (case hr => first | (go_simp; done) | (go_simp; rfl)); intro g_0 hg w52 hbox hb; have n0_ := Y0.mk (Kd.R_below (Kd.rU O_0.out) hb); have n1_ := Y0.mk (Kd.R_below (Kd.rU O_1.out) hb); have n2_ := Y0.mk (Y3 (bU B_0.out) hb); have n3_ := Y0.mk (Y3 (bU B_1.out) hb); have n4_ := Y0.mk (Y3 (bU B_2.out) hb); have n5_ := Y0.mk (Y5 (hU HB.out) hb); have n6_ := Y0.mk (hbox); have n7_ := gE hg HB; have n8_ := gE hg HB; have n9_ := gL hg B_0; have n10_ := gG hg B_0; have n11_ := gL hg B_1; have n12_ := gG hg B_1; have n13_ := gL hg B_2; have n14_ := gG hg B_2; clear O_0; clear O_1; clear B_0; clear B_1; clear B_2; clear HB; have O_0 := n0_; have O_1 := n1_; have B_0 := n2_; have B_1 := n3_; have B_2 := n4_; have HB := n5_; have B_3 := n6_; have W_2 := n7_; have G_3 := n8_; have N_3 := n9_; have N_8 := n10_; have N_2 := n11_; have N_7 := n12_; have N_6 := n13_; have N_a := n14_; clear n0_ n1_ n2_ n3_ n4_ n5_ n6_ n7_ n8_ n9_ n10_ n11_ n12_ n13_ n14_; clear hb hbox hg; have hnb53 := N_8.out; have hnc53 := N_3.out; have hnb54 := N_7.out; have hnc54 := N_2.out; have hnb55 := N_a.out; have hnc55 := N_6.out; have z_5 := Y2 B_3.out; have f_9 := Y4 B_3.out; obtain ⟨Ao57, co57, eo57⟩ := Kd.R_slice O_1.out; subst eo57; have z_4 := Y2 B_0.out; have f_c := Y4 B_0.out; have z_6 := Y2 B_1.out; have f_a := Y4 B_1.out) | ((with_reducible refine Ye (f := 8) rfl ?_); refine goesA (some 35) Tryz.func8 #[.agg #[.int .i64 a0_0, .slice A0_1 l0_1.length c0_1], .agg #[.int .i64 a1_0, .slice A1_1 l1_1.length c1_1]] ?_; (with_reducible refine (Yw.calls k a0_0 _ _ l0_1 a1_0 _ _ l1_1 t_e t_c _ ?side1 ?side2 ?side3 ?side4 A25.out).mono ?_); (case side1 => exact Kd.C_below HR0_1.out (hU HB.out)); (case side2 => exact HC0_1.out); (case side3 => exact Kd.C_below HR1_1.out (hU HB.out)); (case side4 => exact HC1_1.out); rintro e w60 ⟨v_0, rfl, ho0, hb⟩; refine ⟨_, rfl, ?_⟩; replace O_2 := Y0.mk (Kd.R_lower (Kd.R_new' (Kd.R_new' ho0 (Kd.R_lt (by (with_reducible repeat (first | apply Kd.R_alloc | apply Kd.R_drewN | apply Kd.R_drew)); exact (Kd.R_mono (rf2 (g := g_0) (Kd.R_types O_0.out B_3.out (by decide)) (fun _ hk => hk.2)) (fun _ h_ => h_.1))))) (Kd.R_lt (by (with_reducible repeat (first | apply Kd.R_alloc | apply Kd.R_drewN | apply Kd.R_drew)); exact (Kd.R_mono (rf2 (g := g_0) (Kd.R_types O_1.out B_3.out (by decide)) (fun _ hk => hk.2)) (fun _ h_ => h_.1))))) (Ym (hU HB.out))); replace O_0 := Y0.mk (Kd.R_elder' (by (with_reducible repeat (first | apply Kd.R_alloc | apply Kd.R_drewN | apply Kd.R_drew)); exact (Kd.R_mono (rf2 (g := g_0) (Kd.R_types O_0.out B_3.out (by decide)) (fun _ hk => hk.2)) (fun _ h_ => h_.1))) (Kd.R_base ho0) hb); replace O_1 := Y0.mk (Kd.R_elder' (by (with_reducible repeat (first | apply Kd.R_alloc | apply Kd.R_drewN | apply Kd.R_drew)); exact (Kd.R_mono (rf2 (g := g_0) (Kd.R_types O_1.out B_3.out (by decide)) (fun _ hk => hk.2)) (fun _ h_ => h_.1))) (Kd.R_base ho0) hb); replace B_0 := Y0.mk (Y3 (g := g_3) (o := .cells #[.int .i64 a0_0, .slice A0_1 l0_1.length c0_1] 24 (0, 0)) (by (with_reducible repeat (first | refine Y9 ?_ _ | refine Y7 ?_ | refine Y8 ?_ _)); refine (Below.heap_setCell _ ⟨_, _, none⟩ _ _ N_3.out).trans ?_; (with_reducible repeat (first | refine Y9 ?_ _ | refine Y7 ?_ | refine Y8 ?_ _)); refine (Below.heap_setCell _ ⟨_, _, none⟩ _ _ N_3.out).trans ?_; (with_reducible repeat (first | refine Y9 ?_ _ | refine Y7 ?_ | refine Y8 ?_ _)); exact B_0.out) hb); replace B_1 := Y0.mk (Y3 (g := g_2) (o := .cells #[.int .i64 a1_0, .slice A1_1 l1_1.length c1_1] 24 (0, 0)) (by (with_reducible repeat (first | refine Y9 ?_ _ | refine Y7 ?_ | refine Y8 ?_ _)); refine (Below.heap_setCell _ ⟨_, _, none⟩ _ _ N_2.out).trans ?_; (with_reducible repeat (first | refine Y9 ?_ _ | refine Y7 ?_ | refine Y8 ?_ _)); refine (Below.heap_setCell _ ⟨_, _, none⟩ _ _ N_2.out).trans ?_; (with_reducible repeat (first | refine Y9 ?_ _ | refine Y7 ?_ | refine Y8 ?_ _)); exact B_1.out) hb); replace B_2 := Y0.mk (Y3 (g := g_1) (o := .cells #[.int .i64 t_5, .slice Ao48 t_6.length co48] 24 (0, 0)) (by (with_reducible repeat (first | refine Y9 ?_ _ | refine Y7 ?_ | refine Y8 ?_ _)); refine (Below.heap_setCell _ ⟨_, _, none⟩ _ _ N_6.out).trans ?_; (with_reducible repeat (first | refine Y9 ?_ _ | refine Y7 ?_ | refine Y8 ?_ _)); refine (Below.heap_setCell _ ⟨_, _, none⟩ _ _ N_6.out).trans ?_; (with_reducible repeat (first | refine Y9 ?_ _ | refine Y7 ?_ | refine Y8 ?_ _)); exact B_2.out) hb); replace B_3 := Y0.mk (Y3 (g := g_0) (o := .cells #[.int .i64 t_1, .slice Ao57 t_2.length co57] 24 (0, 0)) (by (with_reducible repeat (first | refine Y9 ?_ _ | refine Y7 ?_ | refine Y8 ?_ _)); refine Yt (cs := #[.int .i64 t_1, .slice none 0 0]) ?_ 1 _ rfl; (with_reducible repeat (first | refine Y9 ?_ _ | refine Y7 ?_ | refine Y8 ?_ _)); refine Yt (cs := #[.int .i64 0, .slice none 0 0]) ?_ 0 _ rfl; (with_reducible repeat (first | refine Y9 ?_ _ | refine Y7 ?_ | refine Y8 ?_ _)); exact B_3.out) hb); replace HB := Y0.mk (Y5 (hU HB.out) hb); (try clear hb); (try clear hk); (try clear ho0); have z_3 := Y2 B_0.out; have f_b := Y4 B_0.out; have z_2 := Y2 B_1.out; have f_4 := Y4 B_1.out) | ((with_reducible refine Ye (f := 9) rfl ?_); refine goesA (some 41) Tryz.func9 #[.agg #[.int .i64 a0_0, .slice A0_1 l0_1.length c0_1], .agg #[.int .i64 a1_0, .slice A1_1 l1_1.length c1_1]] ?_; (with_reducible refine (Yh.calls k a0_0 _ _ l0_1 a1_0 _ _ l1_1 t_d t_b _ ?side1 ?side2 ?side3 ?side4 A26.out).mono ?_); (case side1 => repeat (first | exact (Kd.C_below HR0_1.out HB.out) | (with_reducible refine Kd.C_alloc ?_ _) | (with_reducible refine Kd.C_drewN ?_ _) | (with_reducible refine Kd.C_drew ?_))); (case side2 => exact HC0_1.out); (case side3 => repeat (first | exact (Kd.C_below HR1_1.out HB.out) | (with_reducible refine Kd.C_alloc ?_ _) | (with_reducible refine Kd.C_drewN ?_ _) | (with_reducible refine Kd.C_drew ?_))); (case side4 => exact HC1_1.out); rintro e w63 ⟨v_3, rfl, ho0, hb⟩; refine ⟨_, rfl, ?_⟩; replace O_3 := Y0.mk (Kd.R_lower (Kd.R_new' (Kd.R_new' (Kd.R_new' ho0 (Kd.R_lt (Kd.rU O_0.out))) (Kd.R_lt (Kd.rU O_1.out))) (Kd.R_lt (Kd.rU O_2.out))) (Ym (hU HB.out))); replace O_0 := Y0.mk (Kd.R_elder' (Kd.rU O_0.out) (Kd.R_base ho0) hb); replace O_1 := Y0.mk (Kd.R_elder' (Kd.rU O_1.out) (Kd.R_base ho0) hb); replace O_2 := Y0.mk (Kd.R_elder' (Kd.rU O_2.out) (Kd.R_base ho0) hb); replace B_0 := Y0.mk (Y3 (bU B_0.out) hb); replace B_1 := Y0.mk (Y3 (bU B_1.out) hb); replace B_2 := Y0.mk (Y3 (bU B_2.out) hb); replace B_3 := Y0.mk (Y3 (bU B_3.out) hb); replace HB := Y0.mk (Y5 (hU HB.out) hb); (try clear hb); (try clear hk); (try clear ho0); have z_e := Y2 B_2.out; have f_e := Y4 B_2.out; have z_a := Y2 B_3.out; have f_7 := Y4 B_3.out) | ((with_reducible refine Ye (f := 10) rfl ?_); refine goesA (some 46) Tryz.func10 #[.agg #[.int .i64 t_5, .slice Ao48 t_6.length co48], .agg #[.int .i64 t_1, .slice Ao57 t_2.length co57]] ?_; (with_reducible refine (YL.calls k t_5 _ _ t_6 t_1 _ _ t_2 true _ ?side1 ?side2 ?side3 ?side4 A27.out).mono ?_); (case side1 => repeat (first | exact (Kd.R_reads' O_0.out).2.2 | (with_reducible refine Kd.C_alloc ?_ _) | (with_reducible refine Kd.C_drewN ?_ _) | (with_reducible refine Kd.C_drew ?_))); (case side2 => exact (Kd.R_reads' O_0.out).2.1); (case side3 => repeat (first | exact (Kd.R_reads' O_1.out).2.2 | (with_reducible refine Kd.C_alloc ?_ _) | (with_reducible refine Kd.C_drewN ?_ _) | (with_reducible refine Kd.C_drew ?_))); (case side4 => exact (Kd.R_reads' O_1.out).2.1); rintro e w66 ⟨rfl, hb⟩; refine ⟨_, rfl, ?_⟩; replace O_0 := Y0.mk (Kd.R_below (Kd.rU O_0.out) hb); replace O_1 := Y0.mk (Kd.R_below (Kd.rU O_1.out) hb); replace O_2 := Y0.mk (Kd.R_below (Kd.rU O_2.out) hb); replace O_3 := Y0.mk (Kd.R_below (Kd.rU O_3.out) hb); replace B_0 := Y0.mk (Y3 (bU B_0.out) hb); replace B_1 := Y0.mk (Y3 (bU B_1.out) hb); replace B_2 := Y0.mk (Y3 (bU B_2.out) hb); replace B_3 := Y0.mk (Y3 (bU B_3.out) hb); replace HB := Y0.mk (Y5 (hU HB.out) hb); (try clear hb); (try clear hk); obtain ⟨Ao67, co67, eo67⟩ := Kd.R_slice O_2.out; subst eo67; obtain ⟨Ao68, co68, eo68⟩ := Kd.R_slice O_3.out; subst eo68) | (go_at_call 11; (with_reducible refine (Yl.calls k _ _ t_e _ _ t_d true _ ?side1 ?side2 ?side3 ?side4 A30.out).mono ?_); (case side1 => repeat (first | exact (Kd.R_reads' O_2.out).2.2 | (with_reducible refine Kd.C_alloc ?_ _) | (with_reducible refine Kd.C_drewN ?_ _) | (with_reducible refine Kd.C_drew ?_))); (case side2 => exact (Kd.R_reads' O_2.out).2.1); (case side3 => repeat (first | exact (Kd.R_reads' O_3.out).2.2 | (with_reducible refine Kd.C_alloc ?_ _) | (with_reducible refine Kd.C_drewN ?_ _) | (with_reducible refine Kd.C_drew ?_))); (case side4 => exact (Kd.R_reads' O_3.out).2.1); rintro e w' ⟨rfl, ⟨nd, rfl⟩⟩) | (go_at_call 5; (with_reducible refine (Yb.calls k  t_0 _ A33.out).mono ?_); rintro e w69 ⟨rfl, hb⟩; replace O_0 := Y0.mk (Kd.R_below (Kd.rU O_0.out) hb); replace O_1 := Y0.mk (Kd.R_below (Kd.rU O_1.out) hb); replace O_2 := Y0.mk (Kd.R_below (Kd.rU O_2.out) hb); replace O_3 := Y0.mk (Kd.R_below (Kd.rU O_3.out) hb); replace B_0 := Y0.mk (Y3 (bU B_0.out) hb); replace B_1 := Y0.mk (Y3 (bU B_1.out) hb); replace B_2 := Y0.mk (Y3 (bU B_2.out) hb); replace B_3 := Y0.mk (Y3 (bU B_3.out) hb); replace HB := Y0.mk (Y5 (hU HB.out) hb); (try clear hb); (try clear hk)))
   go_ret
   exact ⟨reT, hU HB.out⟩
end Go.Proofs.YteopkkoblbmggaaGreat.P
end
section
set_option linter.unusedVariables false
namespace Go.Proofs.YteopkkoblbmggaaGreat.Open
open Go.ChangeShapes Go.WideShapes Go.RowKit Go.Proofs.YteopkkoblbmggaaGreatW.PrintWords
def Opens {α : Type} (P : Program) (t : TypeId) (d : Kd α) (ok : α → Prop) : Prop :=
  P.cellsOf t = d.sz ∧ ∀ (H : Type) (enc : TypeId × Value → H) (w : World) (sp : Nat → Bool) (hd : Bool) (fuel : Nat) (cs : List Value) (x : DataW H × List MemPlace),
    DataW.trod enc P w 0 sp hd fuel t cs = some x → (∀ n ∈ x.1.weights P t, n ≤ 140737488351232) → ∃ a, d.K w a cs ∧ ok a
def okI (n : Int) : Prop := -9223372036854775808 ≤ n ∧ n ≤ 9223372036854775807
theorem Y4P {P : Program} {t : TypeId} (ht : P.underlying t = some (.int .i64)) (hc : P.cellsOf t = 1) : Opens P t (Kd.int .i64) okI :=
  ⟨hc, fun H enc w sp hd fuel cs x h _ => by
    obtain ⟨n, rfl, _, hw⟩ := DataW.trod_int ht h
    exact ⟨n, rfl, bounds_i64 hw⟩⟩
theorem Y4b {P : Program} {t : TypeId} (ht : P.underlying t = some .bool) (hc : P.cellsOf t = 1) : Opens P t Kd.bool (fun _ => True) :=
  ⟨hc, fun H enc w sp hd fuel cs x h _ => by
    obtain ⟨n, rfl, _⟩ := DataW.trod_bool ht h
    exact ⟨n, rfl, trivial⟩⟩
theorem Y2a {H : Type} {P : Program} {e : TypeId} {n : Nat} : ∀ {ds : List (DataW H)} {d : DataW H}, d ∈ ds → n ∈ d.weights P e → n ∈ DataW.weightsAll P e ds
  | d0 :: ds, d, hd, hn => by
    rw [DataW.weightsAll, List.mem_append]; rcases List.mem_cons.1 hd with rfl | hd
    · exact .inl hn
    · exact .inr (Y2a hd hn)
theorem Y3C {α : Type} {P : Program} {t e : TypeId} {d : Kd α} {ok : α → Prop} (ht : P.underlying t = some (.slice e)) (hc : P.cellsOf t = 1) {B : Nat} (hB : P.bytesOf e = B) (ho : Opens P e d ok) :
    Opens P t (Kd.slice e d) (fun xs => xs.length ≤ maxLen ∧ xs.length * B ≤ 140737488351232 ∧ ∀ a ∈ xs, ok a) := by
  refine ⟨hc, fun H enc w sp hd fuel cs x h hw => ?_⟩; rcases DataW.trod_slice ht h with ⟨rfl, _⟩ | ⟨a, len, cap, elems, rest, n, _, rfl, rfl, _, hlc, hcm, hel, helem, _, _⟩
  · exact ⟨[], ⟨none, 0, rfl, Nat.le_refl _, Kd.C_nil d w⟩, by simp, by simp, by simp⟩
  · have hwt : ∀ m ∈ (elems.length + rest.length) * P.bytesOf e :: (DataW.weightsAll P e (elems.map (·.1)) ++ DataW.weightsAll P e (rest.map (·.1))), m ≤ 140737488351232 := by
      intro m hm; refine hw m ?_; simp only [DataW.weights, ht, List.length_map]; exact hm
    have key : ∀ i : Fin len, ∃ p : α, ok p ∧ ∃ c : List Value, c.length = d.sz ∧ d.K w p c ∧ ∀ j u, c[j]? = some u → w.cell? (a.add (i.1 * d.sz + j)) = some u := by
      intro i; have hi := helem i.1 i.2; have hlt : i.1 < elems.length := by have := i.2; omega
      rw [List.getElem?_eq_getElem hlt] at hi; obtain ⟨c, hc1, hc2⟩ := Option.bind_eq_some_iff.1 hi; obtain ⟨_, hl, hcell⟩ := World.cells?_some hc1; obtain ⟨p, hp, hok⟩ := ho.2 H enc w sp hd n c _ hc2 (fun m hm => hwt m (List.mem_cons_of_mem _ (List.mem_append_left _ (Y2a (List.mem_map.2 ⟨_, List.getElem_mem hlt, rfl⟩) hm)))); refine ⟨p, hok, c, by rw [hl, ho.1], hp, fun j u hu => ?_⟩; have hj : j < P.cellsOf e := by rw [← hl]; exact (List.getElem?_eq_some_iff.1 hu).1
      have hh := hcell j hj; rw [hu, Addr.add_add, ho.1] at hh; exact hh
    have hlen : (List.ofFn fun i : Fin len => Classical.choose (key i)).length = len := List.length_ofFn; have hmx : len ≤ 9223372036854775807 := by unfold maxLen at hcm; omega
    refine ⟨List.ofFn fun i : Fin len => Classical.choose (key i), ⟨some a, cap, by rw [hlen], by rw [hlen]; exact hlc, ?_⟩, by rw [hlen]; unfold maxLen at hcm ⊢; omega, ?_, ?_⟩
    · refine ⟨rfl, by rw [hlen]; exact hmx, fun _ => ⟨a, rfl, fun j p hp => ?_⟩⟩
      rw [List.getElem?_ofFn] at hp
      split at hp
      · rename_i hj
        injection hp with hp
        subst hp; exact (Classical.choose_spec (key ⟨j, hj⟩)).2
      · cases hp
    · rw [hlen, ← hB]
      have := hwt _ List.mem_cons_self; exact Nat.le_trans (Nat.mul_le_mul_right _ (by omega)) this
    · intro p hp
      obtain ⟨i, rfl⟩ := List.mem_ofFn.1 hp; exact (Classical.choose_spec (key i)).1
def Y3M {α : Type} (P : Program) (fs : List Field) (o : Nat) (d : Kd α) (ok : α → Prop) : Prop :=
  ∀ (H : Type) (enc : TypeId × Value → H) (w : World) (sp : Nat → Bool) (hd : Bool) (fuel : Nat) (cs : List Value) (ys : List (DataW H × List MemPlace)),
    ys.length = fs.length → (∀ (i : Nat) (f : Field), fs[i]? = some f → DataW.trod enc P w 0 sp hd fuel f.type ((cs.drop f.offset).take (P.cellsOf f.type)) = ys[i]?) → cs.length = o + d.sz →
    (∀ n ∈ DataW.weightsEach P (fs.map (·.type)) (ys.map (·.1)), n ≤ 140737488351232) → ∃ a, d.K w a (cs.drop o) ∧ ok a
theorem Y27 {α : Type} {P : Program} {f : Field} {o : Nat} {d : Kd α} {ok : α → Prop} (hf : f.offset = o) (ho : Opens P f.type d ok) : Y3M P [f] o d ok := by
  intro H enc w sp hd fuel cs ys hl hy hcs hw
  match ys, hl with
  | [y], _ =>
    have h := hy 0 f rfl; have e : (cs.drop f.offset).take (P.cellsOf f.type) = cs.drop o := by rw [hf, ho.1]; exact List.take_of_length_le (by rw [List.length_drop]; omega)
    rw [e] at h; exact ho.2 H enc w sp hd fuel _ y h (fun n hn => hw n (by simpa [DataW.weightsEach] using hn))
theorem Y1s {α β : Type} {P : Program} {f : Field} {fs : List Field} {o : Nat} {d : Kd α} {d' : Kd β} {ok : α → Prop} {ok' : β → Prop} (hf : f.offset = o) (ho : Opens P f.type d ok) (hr : Y3M P fs (o + d.sz) d' ok') :
    Y3M P (f :: fs) o (Kd.pair d d') (fun a => ok a.1 ∧ ok' a.2) := by
  intro H enc w sp hd fuel cs ys hl hy hcs hw
  match ys, hl with
  | y :: ys, hl =>
    have h := hy 0 f rfl; have hcs' : cs.length = o + (d.sz + d'.sz) := hcs; rw [hf, ho.1] at h; obtain ⟨a, ka, oa⟩ := ho.2 H enc w sp hd fuel _ y h (fun n hn => hw n (by simp only [List.map_cons, DataW.weightsEach, List.mem_append]; exact .inl hn)); obtain ⟨b, kb, ob⟩ := hr H enc w sp hd fuel cs ys (by simpa using hl) (fun i g hg => by simpa using hy (i + 1) g (by simpa using hg)) (by omega) (fun n hn => hw n (by simp only [List.map_cons, DataW.weightsEach, List.mem_append]; exact .inr hn)); refine ⟨(a, b), ⟨_, _, ?_, ka, kb⟩, oa, ob⟩; rw [← List.drop_drop, List.take_append_drop]
theorem Y1U {α β : Type} {P : Program} {t : TypeId} {fs : List Field} {d : Kd α} {ok : α → Prop} (ht : P.underlying t = some (.struct fs.toArray)) (hc : P.cellsOf t = d.sz) (ho : Y3M P fs 0 d ok) (f : β → α) (g : α → β) (hfg : ∀ a, f (g a) = a) :
    Opens P t (Kd.iso d f) (fun b => ok (f b)) := by
  refine ⟨hc, fun H enc w sp hd fuel cs x h hw => ?_⟩; obtain ⟨xs, n, _, rfl, hl, hxl, hx⟩ := DataW.trod_struct ht h; obtain ⟨a, ha, hok⟩ := ho H enc w sp hd n cs xs (by simpa using hxl) (fun i f hf => hx i f (by simpa using hf)) (by omega) (fun m hm => hw m (by simp only [DataW.weights, ht]; exact hm)); refine ⟨g a, ?_, by show ok (f (g a)); rw [hfg]; exact hok⟩
  show d.K w (f (g a)) cs
  rw [hfg]; exact ha
section
variable {H : Type} {enc : TypeId × Value → H} {P : Program} {W : World} {ts : List TypeId} {ds : List (DataW H)} {j : Nat} {t : TypeId} {v : Value} {dd : DataW H} {p : List MemPlace} {sp : Nat → Bool} {hd : Bool}
theorem Y3W {α : Type} {d : Kd α} {ok : α → Prop} {r : Reach} {b : Nat} {fs : Array Field} (ho : Opens P t d ok) (ht : P.underlying t = some (.struct fs)) (hv : Value.okWide P W r b t v)
    (hsz : (DataW.weightsEach P ts ds).all (· ≤ reachBytes) = true) (htj : ts[j]? = some t) (hdj : ds[j]? = some dd) (h : DataW.Trod enc P W 0 sp hd t v dd p) : ∃ (a : α) (cs : Array Value), v = .agg cs ∧ d.K W a cs.toList ∧ ok a := by
  obtain ⟨cs, rfl, _⟩ := okWide_struct ht hv; obtain ⟨fuel, hf⟩ := h
  obtain ⟨a, ha, hok⟩ := ho.2 H enc W sp hd fuel _ _ hf (fun n hn => by
    have := List.all_eq_true.1 hsz _ (DataW.weights_mem_each htj hdj n hn)
    exact of_decide_eq_true this)
  exact ⟨a, cs, rfl, ha, hok⟩
end
end Go.Proofs.YteopkkoblbmggaaGreat.Open
end
section
set_option linter.unusedVariables false
namespace Go.Proofs.YteopkkoblbmggaaGreat.P
open Go.RowKit Go.Proofs.YteopkkoblbmggaaGreatW.PrintWords Go.Proofs.YteopkkoblbmggaaGreatW.PrintLast Go.Proofs.YteopkkoblbmggaaGreatW.PrintMore
set_option maxRecDepth 100000 in
theorem Y4t : Yb.f 400 = some true := by decide +kernel
theorem Y42 (k : Nat) (hk : 400 ≤ k) : Yb.f k = some true := Y3p (fun k => Yb.mono k) hk Y4t
theorem Y5b (d : Int) (l : List S52) : Y11.f d l = some (decide (40 < l.length)) := by
  unfold Y11.f
  congr 1
  rw [decide_eq_decide]; omega
theorem Y5D (d : Int) (l : List S52) : ∃ b, YK.f d l = some b ∧ (b = false → l.length ≤ 513) := by
  unfold YK.f; rw [Y5b, Option.bind_some]; by_cases h : 40 < l.length
  · rw [if_pos (by simpa using h)]
    by_cases h2 : (l.length : Int) < 511
    · rw [if_pos h2]; exact ⟨true, rfl, fun h => by cases h⟩
    · rw [if_neg h2]
      refine ⟨_, rfl, fun hq => ?_⟩
      simp at hq
      omega
  · rw [if_neg (by simpa using h)]
    exact ⟨false, rfl, fun _ => by omega⟩
end Go.Proofs.YteopkkoblbmggaaGreat.P
end
section
set_option linter.unusedVariables false
set_option linter.unusedSimpArgs false
namespace Go.Proofs.YteopkkoblbmggaaGreat.P
open Go.RowKit Go.Proofs.YteopkkoblbmggaaGreatW.PrintWords Go.Proofs.YteopkkoblbmggaaGreatW.PrintLast Go.Proofs.YteopkkoblbmggaaGreatW.PrintMore
theorem Y4x (j : Nat) (k c : Int) (h : ¬ (k < 1 ∨ 4 < k)) : Yo.f (j + 1) k c = some (decide (colP k c)) := by
  unfold Yo.f Yo.j0 colP
  grind
theorem Y32 (j : Nat) (x : Bool) (k c b l d v m : Int) (h1 : ¬ (k < 1 ∨ 4 < k)) (hc : 0 ≤ c ∧ c ≤ 8) : Yg.j1 (j + 2) x k c b l d v m = some (if x = true then 1 else sayC k c d v m) := by
  simp only [Yg.j1, sayC]; rw [Y3o (c - 2) (by omega) (by omega)]; cases x with
  | true => simp
  | false =>
    simp only [if_neg (show ¬ (false = true) by decide)]; by_cases k1 : k = 1
    · rw [if_pos k1, if_pos k1]
      have e : YR.f d v = some (if 0 ≤ d ∧ d ≤ 8 ∧ -1 ≤ v ∧ v ≤ 1 then 0 else 1) := YS.dcheck_eq d v; rw [e, Option.bind_some]; by_cases h : 0 ≤ d ∧ d ≤ 8 ∧ -1 ≤ v ∧ v ≤ 1
      · rw [if_pos h, if_pos h, if_pos rfl]; split <;> rfl
      · rw [if_neg h, if_neg h, if_neg (by decide)]
    · rw [if_neg k1, if_neg k1]
      by_cases k3 : k = 3
      · rw [if_pos k3, if_neg (by omega), if_pos k3]
        simp only [YS.f, Option.bind_some]
      · rw [if_neg k3, if_neg k3]
        simp only [Yg.j2]; by_cases k2 : k = 2
        · by_cases h : d = 0 <;> by_cases h' : v = 0 <;> by_cases h'' : m = 0 <;> simp [h, h', h'', k2]
        · have k4 : k = 4 := by omega
          by_cases h : d = 0 <;> by_cases h' : v = 0 <;> simp [k4, h, h']
          by_cases a : m < -16 <;> by_cases a' : 16 < m <;> by_cases a'' : m = 0 <;> simp [a, a', a'']
theorem Y4f (j : Nat) (x : Bool) (k c b l d v m : Int) (hx : x = false) (h1 : ¬ (k < 1 ∨ 4 < k)) : Yg.j0 (j + 3) x k c b l d v m = some (chkP k c b l d v m) := by
  subst hx; simp only [Yg.j0, chkP, if_neg h1]; rw [Y4x (j + 1) k c h1, if_neg (by decide)]; simp only [Option.bind_some, decide_eq_true_eq]; by_cases h2 : colP k c
  · have hc : 0 ≤ c ∧ c ≤ 8 := by unfold colP at h2; grind
    rw [if_pos h2, if_neg (not_not_intro h2), Y32 j _ k c b l d v m h1 hc, Y32 j _ k c b l d v m h1 hc]; by_cases h3 : b < 0 ∨ 8191 < b
    · rw [if_pos (by omega : b < 0 ∨ 8191 < b ∨ l < 1 ∨ 8192 - b < l)]
      rcases h3 with h3 | h3
      · rw [if_pos h3]; rfl
      · rw [if_neg (by omega), if_pos (by omega)]; rfl
    · rw [Y3o (8192 - b) (by omega) (by omega), if_neg (by omega), if_neg (by omega)]
      by_cases h4 : l < 1 ∨ 8192 - b < l
      · rw [if_pos (by omega : b < 0 ∨ 8191 < b ∨ l < 1 ∨ 8192 - b < l)]
        rcases h4 with h4 | h4
        · rw [if_pos h4]; rfl
        · by_cases h5 : l < 1
          · rw [if_pos h5]; rfl
          · rw [if_neg h5, if_pos (by simpa using h4)]
      · rw [if_neg (by omega), if_neg (by simp; omega), if_neg (by omega : ¬ (b < 0 ∨ 8191 < b ∨ l < 1 ∨ 8192 - b < l))]
  · rw [if_neg h2, if_pos h2]
theorem Y3F (j : Nat) (k c b l d v m : Int) : Yg.f (j + 3) k c b l d v m = some (chkP k c b l d v m) := by
  unfold Yg.f; by_cases h1 : k < 1 ∨ 4 < k
  · have e : chkP k c b l d v m = 9 := by rw [chkP, if_pos h1]
    rw [e]; rcases h1 with h1 | h1
    · rw [if_pos h1]; simp [Yg.j0]
    · rw [if_neg (by omega)]; simp [Yg.j0, h1]
  · rw [if_neg (by omega)]
    exact Y4f j _ k c b l d v m (by simp; omega) h1
theorem Y4h (c d : Int) : YF.f c d = some (valP c d) := by
  unfold YF.f valP; by_cases h1 : 1 ≤ c <;> by_cases h2 : c ≤ 1000000 <;> by_cases h3 : 1 ≤ d <;> by_cases h4 : d ≤ 64 <;> simp [h1, h2, h3, h4, GE.ge]
theorem Y3j (a b c d : Int) : YE.f a b c d = some (lessP a b c d) := by
  unfold YE.f lessP; by_cases h2 : a = c
  · simp [h2]
  · simp [h2]
theorem Y5S (j : Nat) (x : Bool) (a0 a1 a2 a3 a4 : Int) (a5 : Bool) (a6 a7 a8 a9 a10 a11 a12 : Int) :
    Yj.j0 (j + 5) x a0 a1 a2 a3 a4 a5 a6 a7 a8 a9 a10 a11 a12 = some (if x = true then 43 else if a2 < 0 ∨ 12 ≤ a2 then 33
      else if a5 = true then (if a6 = 0 ∧ a7 = 0 ∧ a8 = 0 ∧ a9 = 0 ∧ a10 = 0 ∧ a11 = 0 ∧ a12 = 0 then 0 else 2) else chkP a6 a7 a8 a9 a10 a11 a12) := by
  have e := Y5r (j + 1) x a0 a1 a2 a3 a4 a5 a6 a7 a8 a9 a10 a11 a12; rw [← e]; simp only [Yj.j0, Yj.j1, Yy.j0, Yy.j1, Y2L, Y3F]
theorem Y4U (j : Nat) (a0 a1 a2 a3 a4 : Int) (a5 : Bool) (a6 a7 a8 a9 a10 a11 a12 : Int) :
    Yj.f (j + 5) a0 a1 a2 a3 a4 a5 a6 a7 a8 a9 a10 a11 a12 = some (chkE a0 a1 a2 a3 a4 a5 a6 a7 a8 a9 a10 a11 a12) := by
  unfold Yj.f chkE; simp only [Y4h, Y3j, Option.bind_some, Y5S]; cases h1 : valP a0 a1 <;> cases h2 : valP a3 a4 <;> cases h3 : lessP a0 a1 a3 a4 <;> simp
end Go.Proofs.YteopkkoblbmggaaGreat.P
end

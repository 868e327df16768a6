/- Texts of this claim in one: VP46; no condition. -/
import Derived.Test.YteopkkoblbmggaaQAAC
import Derived.Test.YteopkkoblbmggaaQAAE
import Derived.Test.YteopkkoblbmggaaQAAI
section
namespace Go.Proofs.Yteopkkoblbmggaa.P
open Go.RowKit Go.Proofs.YteopkkoblbmggaaW.PrintWords Go.Proofs.YteopkkoblbmggaaW.PrintLast Go.Proofs.YteopkkoblbmggaaW.PrintMore
attribute [local go_sem] YR YT Y11 Y12 YI YJ YS YU
set_option linter.unusedVariables false
set_option linter.unusedSimpArgs false
def Y1v.f (a0_0 : Int) (l0_1 : List (S30)) (a1_0 : Int) (l1_1 : List (S30)) : Option (Int) := (Yk.f a0_0 l0_1).bind fun t_0 => (if t_0 = 0 then ((Yk.f a1_0 l1_1).bind fun t_1 => (some t_1)) else (some t_0))
set_option maxHeartbeats 8000000 in
set_option maxRecDepth 100000 in
theorem Y1v.calls (a0_0 : Int) (A0_1 : Option Addr) (c0_1 : Nat) (l0_1 : List (S30)) (a1_0 : Int) (A1_1 : Option Addr) (c1_1 : Nat) (l1_1 : List (S30)) (r : Int) (w : World) (hr0_1 : Kd.C k30 w A0_1 l0_1.length l0_1) (hc0_1 : l0_1.length ≤ c0_1) (hr1_1 : Kd.C k30 w A1_1 l1_1.length l1_1) (hc1_1 : l1_1.length ≤ c1_1) (h : Y1v.f a0_0 l0_1 a1_0 l1_1 = some r) :
  Calls Try.prog 76 #[.agg #[.int .i64 a0_0, .slice A0_1 l0_1.length c0_1], .agg #[.int .i64 a1_0, .slice A1_1 l1_1.length c1_1]] w fun e w' => e = .returned (.int .i64 r) ∧ Below w.heap.size w w' := by
 have hu24 := Try.underlying24
 have HR0_1 := Y0.mk hr0_1
 have HC0_1 := Y0.mk hc0_1
 clear hr0_1 hc0_1
 have HR1_1 := Y0.mk hr1_1
 have HC1_1 := Y0.mk hc1_1
 clear hr1_1 hc1_1
 have HB := Y0.mk (Below.refl w.heap.size w)
 have H : ((Yk.f a0_0 l0_1).bind fun t_0 => (if t_0 = 0 then ((Yk.f a1_0 l1_1).bind fun t_1 => (some t_1)) else (some t_0))) = some r := h
 clear h
 obtain ⟨t_0, A30, H⟩ := bS H
 replace H : (if t_0 = 0 then ((Yk.f a1_0 l1_1).bind fun t_1 => (some t_1)) else (some t_0)) = some r := H
 have A3 := Y0.mk A30
 clear A30
 by_cases c4 : t_0 = 0
 ·rw [if_pos c4] at H
  have c4b0 := bqT c4
  have c4b1 := bnF c4
  clear c4
  obtain ⟨t_1, A50, H⟩ := bS H
  replace H : (some t_1) = some r := H
  have A5 := Y0.mk A50
  clear A50
  obtain rfl := Option.some.inj H
  go_enter Try.func76, Try.ntmps76
  go_wp2_with (first | ((with_reducible refine Ye (N := 2) rfl ?_); refine Yh ?hg (N := 2) ?hd (cs := #[.int .i64 a0_0, .slice A0_1 l0_1.length c0_1]) (t := 24) ?hr ?_; (case hd => rfl); (case hg => rfl); (case hr => first | (go_simp; done) | (go_simp; rfl)); intro g_0 hg w6 hbox hb; have n0_ := Y0.mk (Y3 (hU HB.out) hb); have n1_ := Y0.mk (hbox); have n2_ := gE hg HB; have n3_ := gE hg HB; clear HB; have HB := n0_; have B_0 := n1_; have W_1 := n2_; have G_0 := n3_; clear n0_ n1_ n2_ n3_; clear hb hbox hg) | ((with_reducible refine Ye (N := 3) rfl ?_); refine Yh ?hg (N := 3) ?hd (cs := #[.int .i64 a1_0, .slice A1_1 l1_1.length c1_1]) (t := 24) ?hr ?_; (case hd => rfl); (case hg => rfl); (case hr => first | (go_simp; done) | (go_simp; rfl)); intro g_1 hg w7 hbox hb; have n0_ := Y0.mk (Y1 (bU B_0.out) hb); have n1_ := Y0.mk (Y3 (hU HB.out) hb); have n2_ := Y0.mk (hbox); have n3_ := gE hg HB; have n4_ := gE hg HB; have n5_ := gL hg B_0; have n6_ := gG hg B_0; clear B_0; clear HB; have B_0 := n0_; have HB := n1_; have B_1 := n2_; have W_0 := n3_; have G_1 := n4_; have N_0 := n5_; have N_1 := n6_; clear n0_ n1_ n2_ n3_ n4_ n5_ n6_; clear hb hbox hg; have hnb8 := N_0.out; have hnc8 := N_1.out; have z_2 := Y2 B_0.out; have f_1 := Y7 B_0.out) | ((with_reducible refine Yc (f := 29) rfl ?_); refine goesA (some 7) Try.func29 #[.agg #[.int .i64 a0_0, .slice A0_1 l0_1.length c0_1]] ?_; (with_reducible refine (Yk.calls a0_0 _ _ l0_1 t_0 _ ?side1 ?side2 A3.out).mono ?_); (case side1 => repeat (first | exact (Kd.C_below HR0_1.out HB.out) | (with_reducible refine Kd.C_alloc ?_ _) | (with_reducible refine Kd.C_drewN ?_ _) | (with_reducible refine Kd.C_drew ?_))); (case side2 => exact HC0_1.out); rintro e w10 ⟨rfl, hb⟩; refine ⟨_, rfl, ?_⟩; replace B_0 := Y0.mk (Y1 (bU B_0.out) hb); replace B_1 := Y0.mk (Y1 (bU B_1.out) hb); replace HB := Y0.mk (Y3 (hU HB.out) hb); (try clear hb); (try clear hb2); (try clear hk); (try clear hi); have z_1 := Y2 B_1.out; have f_0 := Y7 B_1.out) | ((with_reducible refine Yc (f := 29) rfl ?_); refine goesA (some 12) Try.func29 #[.agg #[.int .i64 a1_0, .slice A1_1 l1_1.length c1_1]] ?_; (with_reducible refine (Yk.calls a1_0 _ _ l1_1 t_1 _ ?side1 ?side2 A5.out).mono ?_); (case side1 => repeat (first | exact (Kd.C_below HR1_1.out HB.out) | (with_reducible refine Kd.C_alloc ?_ _) | (with_reducible refine Kd.C_drewN ?_ _) | (with_reducible refine Kd.C_drew ?_))); (case side2 => exact HC1_1.out); rintro e w12 ⟨rfl, hb⟩; refine ⟨_, rfl, ?_⟩; replace B_0 := Y0.mk (Y1 (bU B_0.out) hb); replace B_1 := Y0.mk (Y1 (bU B_1.out) hb); replace HB := Y0.mk (Y3 (hU HB.out) hb); (try clear hb); (try clear hb2); (try clear hk); (try clear hi)))
  go_ret
  exact ⟨reT, hU HB.out⟩
 ·rw [if_neg c4] at H
  have c4b0 := bqF c4
  have c4b1 := bnT c4
  obtain rfl := Option.some.inj H
  go_enter Try.func76, Try.ntmps76
  go_wp2_with (first | ((with_reducible refine Ye (N := 2) rfl ?_); refine Yh ?hg (N := 2) ?hd (cs := #[.int .i64 a0_0, .slice A0_1 l0_1.length c0_1]) (t := 24) ?hr ?_; (case hd => rfl); (case hg => rfl); (case hr => first | (go_simp; done) | (go_simp; rfl)); intro g_0 hg w13 hbox hb; have n0_ := Y0.mk (Y3 (hU HB.out) hb); have n1_ := Y0.mk (hbox); have n2_ := gE hg HB; have n3_ := gE hg HB; clear HB; have HB := n0_; have B_0 := n1_; have W_1 := n2_; have G_0 := n3_; clear n0_ n1_ n2_ n3_; clear hb hbox hg) | ((with_reducible refine Ye (N := 3) rfl ?_); refine Yh ?hg (N := 3) ?hd (cs := #[.int .i64 a1_0, .slice A1_1 l1_1.length c1_1]) (t := 24) ?hr ?_; (case hd => rfl); (case hg => rfl); (case hr => first | (go_simp; done) | (go_simp; rfl)); intro g_1 hg w14 hbox hb; have n0_ := Y0.mk (Y1 (bU B_0.out) hb); have n1_ := Y0.mk (Y3 (hU HB.out) hb); have n2_ := Y0.mk (hbox); have n3_ := gE hg HB; have n4_ := gE hg HB; have n5_ := gL hg B_0; have n6_ := gG hg B_0; clear B_0; clear HB; have B_0 := n0_; have HB := n1_; have B_1 := n2_; have W_0 := n3_; have G_1 := n4_; have N_0 := n5_; have N_1 := n6_; clear n0_ n1_ n2_ n3_ n4_ n5_ n6_; clear hb hbox hg; have hnb15 := N_0.out; have hnc15 := N_1.out; have z_0 := Y2 B_0.out; have f_2 := Y7 B_0.out) | ((with_reducible refine Yc (f := 29) rfl ?_); refine goesA (some 7) Try.func29 #[.agg #[.int .i64 a0_0, .slice A0_1 l0_1.length c0_1]] ?_; (with_reducible refine (Yk.calls a0_0 _ _ l0_1 t_0 _ ?side1 ?side2 A3.out).mono ?_); (case side1 => repeat (first | exact (Kd.C_below HR0_1.out HB.out) | (with_reducible refine Kd.C_alloc ?_ _) | (with_reducible refine Kd.C_drewN ?_ _) | (with_reducible refine Kd.C_drew ?_))); (case side2 => exact HC0_1.out); rintro e w17 ⟨rfl, hb⟩; refine ⟨_, rfl, ?_⟩; replace B_0 := Y0.mk (Y1 (bU B_0.out) hb); replace B_1 := Y0.mk (Y1 (bU B_1.out) hb); replace HB := Y0.mk (Y3 (hU HB.out) hb); (try clear hb); (try clear hb2); (try clear hk); (try clear hi)))
  go_ret
  exact ⟨reT, hU HB.out⟩
end Go.Proofs.Yteopkkoblbmggaa.P
end

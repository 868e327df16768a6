/- Texts of this claim in one: VP48; no condition. -/
import Derived.Test.YteopkkoblbmggaaQAAC
import Derived.Test.YteopkkoblbmggaaQAAE
import Derived.Test.YteopkkoblbmggaaQAAN
section
namespace Go.Proofs.Yteopkkoblbmggaa.P
open Go.RowKit Go.Proofs.YteopkkoblbmggaaW.PrintWords Go.Proofs.YteopkkoblbmggaaW.PrintLast Go.Proofs.YteopkkoblbmggaaW.PrintMore
attribute [local go_sem] YR YT Y11 Y12 YI YJ YS YU
set_option linter.unusedVariables false
set_option linter.unusedSimpArgs false
def Yu.f (k : Nat) (a0_0 : Int) (l0_1 : List (S30)) (a1_0 : Int) (l1_1 : List (S30)) (a2 : Int) (a3 : Int) : Option (Bool) := (Yt.f a0_0 l0_1 a2 a3).bind fun b_0 => ((Yt.f a1_0 l1_1 a2 a3).bind fun b_1 => (if b_0.2.2 = 0 then (if b_1.2.2 = 0 then ((Yl.f k b_0.1 b_1.1).bind fun t_4 => (if t_4 = true then ((Yj.f k b_0.2.1 b_1.2.1).bind fun t_0 => (some t_0)) else (some false))) else (some false)) else (some false)))
theorem Yu.mono : ∀ a0 a1 a2 a3 a4 a5 k, LeO (Yu.f k a0 a1 a2 a3 a4 a5) (Yu.f (k + 1) a0 a1 a2 a3 a4 a5) := by
 intro a0 a1 a2 a3 a4 a5 k
 unfold Yu.f
 repeat' first
   | (with_reducible exact Yl.mono _ _ _)
   | (with_reducible exact Yj.mono _ _ _)
   | (with_reducible exact LeO.refl _)
   | (with_reducible exact LeO.none _)
   | (with_reducible refine LeO.ite ?_ ?_)
   | (with_reducible refine LeO.bind ?_ (fun _ => ?_))
set_option maxHeartbeats 8000000 in
set_option maxRecDepth 100000 in
theorem Yu.calls (k : Nat) (a0_0 : Int) (A0_1 : Option Addr) (c0_1 : Nat) (l0_1 : List (S30)) (a1_0 : Int) (A1_1 : Option Addr) (c1_1 : Nat) (l1_1 : List (S30)) (a2 : Int) (a3 : Int) (r : Bool) (w : World) (hr0_1 : Kd.C k30 w A0_1 l0_1.length l0_1) (hc0_1 : l0_1.length ≤ c0_1) (hr1_1 : Kd.C k30 w A1_1 l1_1.length l1_1) (hc1_1 : l1_1.length ≤ c1_1) (h : Yu.f k a0_0 l0_1 a1_0 l1_1 a2 a3 = some r) :
  Calls Try.prog 32 #[.agg #[.int .i64 a0_0, .slice A0_1 l0_1.length c0_1], .agg #[.int .i64 a1_0, .slice A1_1 l1_1.length c1_1], .int .i64 a2, .int .i64 a3] w fun e w' => e = .returned (.bool r) ∧ Below w.heap.size w w' := by
 have hu24 := Try.underlying24
 have HR0_1 := Y0.mk hr0_1
 have HC0_1 := Y0.mk hc0_1
 clear hr0_1 hc0_1
 have HR1_1 := Y0.mk hr1_1
 have HC1_1 := Y0.mk hc1_1
 clear hr1_1 hc1_1
 have HB := Y0.mk (Below.refl w.heap.size w)
 have H : ((Yt.f a0_0 l0_1 a2 a3).bind fun b_0 => ((Yt.f a1_0 l1_1 a2 a3).bind fun b_1 => (if b_0.2.2 = 0 then (if b_1.2.2 = 0 then ((Yl.f k b_0.1 b_1.1).bind fun t_4 => (if t_4 = true then ((Yj.f k b_0.2.1 b_1.2.1).bind fun t_0 => (some t_0)) else (some false))) else (some false)) else (some false)))) = some r := h
 clear h
 obtain ⟨⟨t_5, t_2, t_6⟩, A50, H⟩ := bS H
 try dsimp only at H
 have A5 := Y0.mk A50
 clear A50
 obtain ⟨⟨t_3, t_1, t_7⟩, A60, H⟩ := bS H
 try dsimp only at H
 have A6 := Y0.mk A60
 clear A60
 by_cases c7 : t_6 = 0
 ·rw [if_pos c7] at H
  have c7b0 := bqT c7
  have c7b1 := bnF c7
  clear c7
  by_cases c8 : t_7 = 0
  ·rw [if_pos c8] at H
   have c8b0 := bqT c8
   have c8b1 := bnF c8
   clear c8
   obtain ⟨t_4, A90, H⟩ := bS H
   replace H : (if t_4 = true then ((Yj.f k t_2 t_1).bind fun t_0 => (some t_0)) else (some false)) = some r := H
   have A9 := Y0.mk A90
   clear A90
   by_cases c10 : t_4 = true
   ·subst c10
    have H1 : ((Yj.f k t_2 t_1).bind fun t_0 => (some t_0)) = some r := by rw [if_pos rfl] at H; exact H
    clear H
    have H := H1
    clear H1
    obtain ⟨t_0, A110, H⟩ := bS H
    replace H : (some t_0) = some r := H
    have A11 := Y0.mk A110
    clear A110
    obtain rfl := Option.some.inj H
    go_enter Try.func32, Try.ntmps32
    go_wp2_with (first | ((with_reducible refine Ye (N := 4) rfl ?_); refine Yh ?hg (N := 4) ?hd (cs := #[.int .i64 a0_0, .slice A0_1 l0_1.length c0_1]) (t := 24) ?hr ?_; (case hd => rfl); (case hg => rfl); (case hr => first | (go_simp; done) | (go_simp; rfl)); intro g_1 hg w12 hbox hb; have n0_ := Y0.mk (Y3 (hU HB.out) hb); have n1_ := Y0.mk (hbox); have n2_ := gE hg HB; have n3_ := gE hg HB; clear HB; have HB := n0_; have B_0 := n1_; have W_1 := n2_; have G_1 := n3_; clear n0_ n1_ n2_ n3_; clear hb hbox hg) | ((with_reducible refine Ye (N := 5) rfl ?_); refine Yh ?hg (N := 5) ?hd (cs := #[.int .i64 a1_0, .slice A1_1 l1_1.length c1_1]) (t := 24) ?hr ?_; (case hd => rfl); (case hg => rfl); (case hr => first | (go_simp; done) | (go_simp; rfl)); intro g_0 hg w13 hbox hb; have n0_ := Y0.mk (Y1 (bU B_0.out) hb); have n1_ := Y0.mk (Y3 (hU HB.out) hb); have n2_ := Y0.mk (hbox); have n3_ := gE hg HB; have n4_ := gE hg HB; have n5_ := gL hg B_0; have n6_ := gG hg B_0; clear B_0; clear HB; have B_0 := n0_; have HB := n1_; have B_1 := n2_; have W_0 := n3_; have G_0 := n4_; have N_1 := n5_; have N_0 := n6_; clear n0_ n1_ n2_ n3_ n4_ n5_ n6_; clear hb hbox hg; have hnb14 := N_1.out; have hnc14 := N_0.out; have z_0 := Y2 B_0.out; have f_1 := Y7 B_0.out) | ((with_reducible refine Yc (f := 23) rfl ?_); refine goesA (some 19) Try.func23 #[.agg #[.int .i64 a0_0, .slice A0_1 l0_1.length c0_1], .int .i64 a2, .int .i64 a3] ?_; (with_reducible refine (Yt.calls a0_0 _ _ l0_1 a2 a3 t_5 t_2 t_6 _ ?side1 ?side2 A5.out).mono ?_); (case side1 => repeat (first | exact (Kd.C_below HR0_1.out HB.out) | (with_reducible refine Kd.C_alloc ?_ _) | (with_reducible refine Kd.C_drewN ?_ _) | (with_reducible refine Kd.C_drew ?_))); (case side2 => exact HC0_1.out); rintro e w16 ⟨v_0, v_2, rfl, ho0, ho1, hb⟩; refine ⟨_, rfl, ?_⟩; replace O_0 := Y0.mk (Kd.R_lower ho0 (Yf (hU HB.out))); replace O_1 := Y0.mk (Kd.R_lower ho1 (Yf (hU HB.out))); replace B_0 := Y0.mk (Y1 (bU B_0.out) hb); replace B_1 := Y0.mk (Y1 (bU B_1.out) hb); replace HB := Y0.mk (Y3 (hU HB.out) hb); (try clear hb); (try clear hb2); (try clear hk); (try clear hi); (try clear ho0); (try clear ho1); have z_7 := Y2 B_1.out; have f_7 := Y7 B_1.out) | ((with_reducible refine Yc (f := 23) rfl ?_); refine goesA (some 27) Try.func23 #[.agg #[.int .i64 a1_0, .slice A1_1 l1_1.length c1_1], .int .i64 a2, .int .i64 a3] ?_; (with_reducible refine (Yt.calls a1_0 _ _ l1_1 a2 a3 t_3 t_1 t_7 _ ?side1 ?side2 A6.out).mono ?_); (case side1 => repeat (first | exact (Kd.C_below HR1_1.out HB.out) | (with_reducible refine Kd.C_alloc ?_ _) | (with_reducible refine Kd.C_drewN ?_ _) | (with_reducible refine Kd.C_drew ?_))); (case side2 => exact HC1_1.out); rintro e w18 ⟨v_1, v_3, rfl, ho0, ho1, hb⟩; refine ⟨_, rfl, ?_⟩; replace O_2 := Y0.mk (Kd.R_lower (Kd.R_new' ho0 (Kd.R_lt (Kd.rU O_0.out))) (Yf (hU HB.out))); replace O_0 := Y0.mk (Kd.R_elder' (Kd.rU O_0.out) (Kd.R_base ho0) hb); replace O_3 := Y0.mk (Kd.R_lower (Kd.R_new' ho1 (Kd.R_lt (Kd.rU O_1.out))) (Yf (hU HB.out))); replace O_1 := Y0.mk (Kd.R_elder' (Kd.rU O_1.out) (Kd.R_base ho1) hb); replace B_0 := Y0.mk (Y1 (bU B_0.out) hb); replace B_1 := Y0.mk (Y1 (bU B_1.out) hb); replace HB := Y0.mk (Y3 (hU HB.out) hb); (try clear hb); (try clear hb2); (try clear hk); (try clear hi); (try clear ho0); (try clear ho1); obtain ⟨Ao19, co19, eo19⟩ := Kd.R_slice O_0.out; subst eo19; obtain ⟨Ao20, co20, eo20⟩ := Kd.R_slice O_2.out; subst eo20) | (go_at_call 25; (with_reducible refine (Yl.calls k _ _ t_5 _ _ t_3 true _ ?side1 ?side2 ?side3 ?side4 A9.out).mono ?_); (case side1 => repeat (first | exact (Kd.R_reads' O_0.out).2.2 | (with_reducible refine Kd.C_alloc ?_ _) | (with_reducible refine Kd.C_drewN ?_ _) | (with_reducible refine Kd.C_drew ?_))); (case side2 => exact (Kd.R_reads' O_0.out).2.1); (case side3 => repeat (first | exact (Kd.R_reads' O_2.out).2.2 | (with_reducible refine Kd.C_alloc ?_ _) | (with_reducible refine Kd.C_drewN ?_ _) | (with_reducible refine Kd.C_drew ?_))); (case side4 => exact (Kd.R_reads' O_2.out).2.1); rintro e w' ⟨rfl, ⟨nd, rfl⟩⟩; obtain ⟨Ao21, co21, eo21⟩ := Kd.R_slice O_1.out; subst eo21; obtain ⟨Ao22, co22, eo22⟩ := Kd.R_slice O_3.out; subst eo22) | (go_at_call 26; (with_reducible refine (Yj.calls k _ _ t_2 _ _ t_1 t_0 _ ?side1 ?side2 ?side3 ?side4 A11.out).mono ?_); (case side1 => repeat (first | exact (Kd.R_reads' O_1.out).2.2 | (with_reducible refine Kd.C_alloc ?_ _) | (with_reducible refine Kd.C_drewN ?_ _) | (with_reducible refine Kd.C_drew ?_))); (case side2 => exact (Kd.R_reads' O_1.out).2.1); (case side3 => repeat (first | exact (Kd.R_reads' O_3.out).2.2 | (with_reducible refine Kd.C_alloc ?_ _) | (with_reducible refine Kd.C_drewN ?_ _) | (with_reducible refine Kd.C_drew ?_))); (case side4 => exact (Kd.R_reads' O_3.out).2.1); rintro e w' ⟨rfl, ⟨nd, rfl⟩⟩))
    go_ret
    exact ⟨reT, hU HB.out⟩
   ·replace c10 := Bool.eq_false_iff.mpr c10
    subst c10
    have H1 : (some false) = some r := by rw [if_neg (show ¬ (false = true) by decide)] at H; exact H
    clear H
    have H := H1
    clear H1
    obtain rfl := Option.some.inj H
    go_enter Try.func32, Try.ntmps32
    go_wp2_with (first | ((with_reducible refine Ye (N := 4) rfl ?_); refine Yh ?hg (N := 4) ?hd (cs := #[.int .i64 a0_0, .slice A0_1 l0_1.length c0_1]) (t := 24) ?hr ?_; (case hd => rfl); (case hg => rfl); (case hr => first | (go_simp; done) | (go_simp; rfl)); intro g_1 hg w23 hbox hb; have n0_ := Y0.mk (Y3 (hU HB.out) hb); have n1_ := Y0.mk (hbox); have n2_ := gE hg HB; have n3_ := gE hg HB; clear HB; have HB := n0_; have B_0 := n1_; have W_1 := n2_; have G_1 := n3_; clear n0_ n1_ n2_ n3_; clear hb hbox hg) | ((with_reducible refine Ye (N := 5) rfl ?_); refine Yh ?hg (N := 5) ?hd (cs := #[.int .i64 a1_0, .slice A1_1 l1_1.length c1_1]) (t := 24) ?hr ?_; (case hd => rfl); (case hg => rfl); (case hr => first | (go_simp; done) | (go_simp; rfl)); intro g_0 hg w24 hbox hb; have n0_ := Y0.mk (Y1 (bU B_0.out) hb); have n1_ := Y0.mk (Y3 (hU HB.out) hb); have n2_ := Y0.mk (hbox); have n3_ := gE hg HB; have n4_ := gE hg HB; have n5_ := gL hg B_0; have n6_ := gG hg B_0; clear B_0; clear HB; have B_0 := n0_; have HB := n1_; have B_1 := n2_; have W_0 := n3_; have G_0 := n4_; have N_1 := n5_; have N_0 := n6_; clear n0_ n1_ n2_ n3_ n4_ n5_ n6_; clear hb hbox hg; have hnb25 := N_1.out; have hnc25 := N_0.out; have z_5 := Y2 B_0.out; have f_3 := Y7 B_0.out) | ((with_reducible refine Yc (f := 23) rfl ?_); refine goesA (some 19) Try.func23 #[.agg #[.int .i64 a0_0, .slice A0_1 l0_1.length c0_1], .int .i64 a2, .int .i64 a3] ?_; (with_reducible refine (Yt.calls a0_0 _ _ l0_1 a2 a3 t_5 t_2 t_6 _ ?side1 ?side2 A5.out).mono ?_); (case side1 => repeat (first | exact (Kd.C_below HR0_1.out HB.out) | (with_reducible refine Kd.C_alloc ?_ _) | (with_reducible refine Kd.C_drewN ?_ _) | (with_reducible refine Kd.C_drew ?_))); (case side2 => exact HC0_1.out); rintro e w27 ⟨v_0, v_2, rfl, ho0, ho1, hb⟩; refine ⟨_, rfl, ?_⟩; replace O_0 := Y0.mk (Kd.R_lower ho0 (Yf (hU HB.out))); replace O_1 := Y0.mk (Kd.R_lower ho1 (Yf (hU HB.out))); replace B_0 := Y0.mk (Y1 (bU B_0.out) hb); replace B_1 := Y0.mk (Y1 (bU B_1.out) hb); replace HB := Y0.mk (Y3 (hU HB.out) hb); (try clear hb); (try clear hb2); (try clear hk); (try clear hi); (try clear ho0); (try clear ho1); have z_2 := Y2 B_1.out; have f_4 := Y7 B_1.out) | ((with_reducible refine Yc (f := 23) rfl ?_); refine goesA (some 27) Try.func23 #[.agg #[.int .i64 a1_0, .slice A1_1 l1_1.length c1_1], .int .i64 a2, .int .i64 a3] ?_; (with_reducible refine (Yt.calls a1_0 _ _ l1_1 a2 a3 t_3 t_1 t_7 _ ?side1 ?side2 A6.out).mono ?_); (case side1 => repeat (first | exact (Kd.C_below HR1_1.out HB.out) | (with_reducible refine Kd.C_alloc ?_ _) | (with_reducible refine Kd.C_drewN ?_ _) | (with_reducible refine Kd.C_drew ?_))); (case side2 => exact HC1_1.out); rintro e w29 ⟨v_1, v_3, rfl, ho0, ho1, hb⟩; refine ⟨_, rfl, ?_⟩; replace O_2 := Y0.mk (Kd.R_lower (Kd.R_new' ho0 (Kd.R_lt (Kd.rU O_0.out))) (Yf (hU HB.out))); replace O_0 := Y0.mk (Kd.R_elder' (Kd.rU O_0.out) (Kd.R_base ho0) hb); replace O_3 := Y0.mk (Kd.R_lower (Kd.R_new' ho1 (Kd.R_lt (Kd.rU O_1.out))) (Yf (hU HB.out))); replace O_1 := Y0.mk (Kd.R_elder' (Kd.rU O_1.out) (Kd.R_base ho1) hb); replace B_0 := Y0.mk (Y1 (bU B_0.out) hb); replace B_1 := Y0.mk (Y1 (bU B_1.out) hb); replace HB := Y0.mk (Y3 (hU HB.out) hb); (try clear hb); (try clear hb2); (try clear hk); (try clear hi); (try clear ho0); (try clear ho1); obtain ⟨Ao30, co30, eo30⟩ := Kd.R_slice O_0.out; subst eo30; obtain ⟨Ao31, co31, eo31⟩ := Kd.R_slice O_2.out; subst eo31) | (go_at_call 25; (with_reducible refine (Yl.calls k _ _ t_5 _ _ t_3 false _ ?side1 ?side2 ?side3 ?side4 A9.out).mono ?_); (case side1 => repeat (first | exact (Kd.R_reads' O_0.out).2.2 | (with_reducible refine Kd.C_alloc ?_ _) | (with_reducible refine Kd.C_drewN ?_ _) | (with_reducible refine Kd.C_drew ?_))); (case side2 => exact (Kd.R_reads' O_0.out).2.1); (case side3 => repeat (first | exact (Kd.R_reads' O_2.out).2.2 | (with_reducible refine Kd.C_alloc ?_ _) | (with_reducible refine Kd.C_drewN ?_ _) | (with_reducible refine Kd.C_drew ?_))); (case side4 => exact (Kd.R_reads' O_2.out).2.1); rintro e w' ⟨rfl, ⟨nd, rfl⟩⟩))
    go_ret
    exact ⟨reT, hU HB.out⟩
  ·rw [if_neg c8] at H
   have c8b0 := bqF c8
   have c8b1 := bnT c8
   obtain rfl := Option.some.inj H
   go_enter Try.func32, Try.ntmps32
   go_wp2_with (first | ((with_reducible refine Ye (N := 4) rfl ?_); refine Yh ?hg (N := 4) ?hd (cs := #[.int .i64 a0_0, .slice A0_1 l0_1.length c0_1]) (t := 24) ?hr ?_; (case hd => rfl); (case hg => rfl); (case hr => first | (go_simp; done) | (go_simp; rfl)); intro g_1 hg w32 hbox hb; have n0_ := Y0.mk (Y3 (hU HB.out) hb); have n1_ := Y0.mk (hbox); have n2_ := gE hg HB; have n3_ := gE hg HB; clear HB; have HB := n0_; have B_0 := n1_; have W_1 := n2_; have G_1 := n3_; clear n0_ n1_ n2_ n3_; clear hb hbox hg) | ((with_reducible refine Ye (N := 5) rfl ?_); refine Yh ?hg (N := 5) ?hd (cs := #[.int .i64 a1_0, .slice A1_1 l1_1.length c1_1]) (t := 24) ?hr ?_; (case hd => rfl); (case hg => rfl); (case hr => first | (go_simp; done) | (go_simp; rfl)); intro g_0 hg w33 hbox hb; have n0_ := Y0.mk (Y1 (bU B_0.out) hb); have n1_ := Y0.mk (Y3 (hU HB.out) hb); have n2_ := Y0.mk (hbox); have n3_ := gE hg HB; have n4_ := gE hg HB; have n5_ := gL hg B_0; have n6_ := gG hg B_0; clear B_0; clear HB; have B_0 := n0_; have HB := n1_; have B_1 := n2_; have W_0 := n3_; have G_0 := n4_; have N_1 := n5_; have N_0 := n6_; clear n0_ n1_ n2_ n3_ n4_ n5_ n6_; clear hb hbox hg; have hnb34 := N_1.out; have hnc34 := N_0.out; have z_6 := Y2 B_0.out; have f_5 := Y7 B_0.out) | ((with_reducible refine Yc (f := 23) rfl ?_); refine goesA (some 19) Try.func23 #[.agg #[.int .i64 a0_0, .slice A0_1 l0_1.length c0_1], .int .i64 a2, .int .i64 a3] ?_; (with_reducible refine (Yt.calls a0_0 _ _ l0_1 a2 a3 t_5 t_2 t_6 _ ?side1 ?side2 A5.out).mono ?_); (case side1 => repeat (first | exact (Kd.C_below HR0_1.out HB.out) | (with_reducible refine Kd.C_alloc ?_ _) | (with_reducible refine Kd.C_drewN ?_ _) | (with_reducible refine Kd.C_drew ?_))); (case side2 => exact HC0_1.out); rintro e w36 ⟨v_0, v_2, rfl, ho0, ho1, hb⟩; refine ⟨_, rfl, ?_⟩; replace O_0 := Y0.mk (Kd.R_lower ho0 (Yf (hU HB.out))); replace O_1 := Y0.mk (Kd.R_lower ho1 (Yf (hU HB.out))); replace B_0 := Y0.mk (Y1 (bU B_0.out) hb); replace B_1 := Y0.mk (Y1 (bU B_1.out) hb); replace HB := Y0.mk (Y3 (hU HB.out) hb); (try clear hb); (try clear hb2); (try clear hk); (try clear hi); (try clear ho0); (try clear ho1); have z_3 := Y2 B_1.out; have f_0 := Y7 B_1.out) | ((with_reducible refine Yc (f := 23) rfl ?_); refine goesA (some 27) Try.func23 #[.agg #[.int .i64 a1_0, .slice A1_1 l1_1.length c1_1], .int .i64 a2, .int .i64 a3] ?_; (with_reducible refine (Yt.calls a1_0 _ _ l1_1 a2 a3 t_3 t_1 t_7 _ ?side1 ?side2 A6.out).mono ?_); (case side1 => repeat (first | exact (Kd.C_below HR1_1.out HB.out) | (with_reducible refine Kd.C_alloc ?_ _) | (with_reducible refine Kd.C_drewN ?_ _) | (with_reducible refine Kd.C_drew ?_))); (case side2 => exact HC1_1.out); rintro e w38 ⟨v_1, v_3, rfl, ho0, ho1, hb⟩; refine ⟨_, rfl, ?_⟩; replace O_2 := Y0.mk (Kd.R_lower (Kd.R_new' ho0 (Kd.R_lt (Kd.rU O_0.out))) (Yf (hU HB.out))); replace O_0 := Y0.mk (Kd.R_elder' (Kd.rU O_0.out) (Kd.R_base ho0) hb); replace O_3 := Y0.mk (Kd.R_lower (Kd.R_new' ho1 (Kd.R_lt (Kd.rU O_1.out))) (Yf (hU HB.out))); replace O_1 := Y0.mk (Kd.R_elder' (Kd.rU O_1.out) (Kd.R_base ho1) hb); replace B_0 := Y0.mk (Y1 (bU B_0.out) hb); replace B_1 := Y0.mk (Y1 (bU B_1.out) hb); replace HB := Y0.mk (Y3 (hU HB.out) hb); (try clear hb); (try clear hb2); (try clear hk); (try clear hi); (try clear ho0); (try clear ho1)))
   go_ret
   exact ⟨reT, hU HB.out⟩
 ·rw [if_neg c7] at H
  have c7b0 := bqF c7
  have c7b1 := bnT c7
  obtain rfl := Option.some.inj H
  go_enter Try.func32, Try.ntmps32
  go_wp2_with (first | ((with_reducible refine Ye (N := 4) rfl ?_); refine Yh ?hg (N := 4) ?hd (cs := #[.int .i64 a0_0, .slice A0_1 l0_1.length c0_1]) (t := 24) ?hr ?_; (case hd => rfl); (case hg => rfl); (case hr => first | (go_simp; done) | (go_simp; rfl)); intro g_1 hg w39 hbox hb; have n0_ := Y0.mk (Y3 (hU HB.out) hb); have n1_ := Y0.mk (hbox); have n2_ := gE hg HB; have n3_ := gE hg HB; clear HB; have HB := n0_; have B_0 := n1_; have W_1 := n2_; have G_1 := n3_; clear n0_ n1_ n2_ n3_; clear hb hbox hg) | ((with_reducible refine Ye (N := 5) rfl ?_); refine Yh ?hg (N := 5) ?hd (cs := #[.int .i64 a1_0, .slice A1_1 l1_1.length c1_1]) (t := 24) ?hr ?_; (case hd => rfl); (case hg => rfl); (case hr => first | (go_simp; done) | (go_simp; rfl)); intro g_0 hg w40 hbox hb; have n0_ := Y0.mk (Y1 (bU B_0.out) hb); have n1_ := Y0.mk (Y3 (hU HB.out) hb); have n2_ := Y0.mk (hbox); have n3_ := gE hg HB; have n4_ := gE hg HB; have n5_ := gL hg B_0; have n6_ := gG hg B_0; clear B_0; clear HB; have B_0 := n0_; have HB := n1_; have B_1 := n2_; have W_0 := n3_; have G_0 := n4_; have N_1 := n5_; have N_0 := n6_; clear n0_ n1_ n2_ n3_ n4_ n5_ n6_; clear hb hbox hg; have hnb41 := N_1.out; have hnc41 := N_0.out; have z_1 := Y2 B_0.out; have f_6 := Y7 B_0.out) | ((with_reducible refine Yc (f := 23) rfl ?_); refine goesA (some 19) Try.func23 #[.agg #[.int .i64 a0_0, .slice A0_1 l0_1.length c0_1], .int .i64 a2, .int .i64 a3] ?_; (with_reducible refine (Yt.calls a0_0 _ _ l0_1 a2 a3 t_5 t_2 t_6 _ ?side1 ?side2 A5.out).mono ?_); (case side1 => repeat (first | exact (Kd.C_below HR0_1.out HB.out) | (with_reducible refine Kd.C_alloc ?_ _) | (with_reducible refine Kd.C_drewN ?_ _) | (with_reducible refine Kd.C_drew ?_))); (case side2 => exact HC0_1.out); rintro e w43 ⟨v_0, v_2, rfl, ho0, ho1, hb⟩; refine ⟨_, rfl, ?_⟩; replace O_0 := Y0.mk (Kd.R_lower ho0 (Yf (hU HB.out))); replace O_1 := Y0.mk (Kd.R_lower ho1 (Yf (hU HB.out))); replace B_0 := Y0.mk (Y1 (bU B_0.out) hb); replace B_1 := Y0.mk (Y1 (bU B_1.out) hb); replace HB := Y0.mk (Y3 (hU HB.out) hb); (try clear hb); (try clear hb2); (try clear hk); (try clear hi); (try clear ho0); (try clear ho1); have z_4 := Y2 B_1.out; have f_2 := Y7 B_1.out) | ((with_reducible refine Yc (f := 23) rfl ?_); refine goesA (some 27) Try.func23 #[.agg #[.int .i64 a1_0, .slice A1_1 l1_1.length c1_1], .int .i64 a2, .int .i64 a3] ?_; (with_reducible refine (Yt.calls a1_0 _ _ l1_1 a2 a3 t_3 t_1 t_7 _ ?side1 ?side2 A6.out).mono ?_); (case side1 => repeat (first | exact (Kd.C_below HR1_1.out HB.out) | (with_reducible refine Kd.C_alloc ?_ _) | (with_reducible refine Kd.C_drewN ?_ _) | (with_reducible refine Kd.C_drew ?_))); (case side2 => exact HC1_1.out); rintro e w45 ⟨v_1, v_3, rfl, ho0, ho1, hb⟩; refine ⟨_, rfl, ?_⟩; replace O_2 := Y0.mk (Kd.R_lower (Kd.R_new' ho0 (Kd.R_lt (Kd.rU O_0.out))) (Yf (hU HB.out))); replace O_0 := Y0.mk (Kd.R_elder' (Kd.rU O_0.out) (Kd.R_base ho0) hb); replace O_3 := Y0.mk (Kd.R_lower (Kd.R_new' ho1 (Kd.R_lt (Kd.rU O_1.out))) (Yf (hU HB.out))); replace O_1 := Y0.mk (Kd.R_elder' (Kd.rU O_1.out) (Kd.R_base ho1) hb); replace B_0 := Y0.mk (Y1 (bU B_0.out) hb); replace B_1 := Y0.mk (Y1 (bU B_1.out) hb); replace HB := Y0.mk (Y3 (hU HB.out) hb); (try clear hb); (try clear hb2); (try clear hk); (try clear hi); (try clear ho0); (try clear ho1)))
  go_ret
  exact ⟨reT, hU HB.out⟩
end Go.Proofs.Yteopkkoblbmggaa.P
end

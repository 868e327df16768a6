/- Texts of this claim in one: VP6, VP7, VP9; no condition. -/
import Derived.Test.YteopkkoblbmggaaQAAC
import Derived.Test.YteopkkoblbmggaaQAAE
import Derived.Test.YteopkkoblbmggaaQAAF
section
namespace Go.Proofs.Yteopkkoblbmggaa.P
open Go.RowKit Go.Proofs.YteopkkoblbmggaaW.PrintWords Go.Proofs.YteopkkoblbmggaaW.PrintLast Go.Proofs.YteopkkoblbmggaaW.PrintMore
attribute [local go_sem] YR YT Y11 Y12 YI YJ YS YU
set_option linter.unusedVariables false
set_option linter.unusedSimpArgs false
def YF.j0 : Nat → Bool → Int → Int → Int → Int → Int → Int → Int → Option (Int)
 | 0, _, _, _, _, _, _, _, _ => none
 | k + 1, x62, x_6, x_2, x_4, x_5, x_1, x_3, x_0 => if x62 = true then (some 2) else (if x_0 < (-16) then (some 1) else (if x_0 > 16 then (some 1) else (if x_0 = 0 then (some 1) else (some 0))))
def YF.f (k : Nat) (a0_0 : Int) (a0_1 : Int) (a0_2 : Int) (a0_3 : Int) (a0_4 : Int) (a0_5 : Int) (a0_6 : Int) : Option (Int) := if a0_0 = 1 then ((dir_Check.f a0_4 a0_5).bind fun t_0 => (if t_0 = 0 then (if a0_6 = 0 then (some 0) else (some 2)) else (some t_0))) else (if a0_0 = 2 then (if a0_4 = 0 then (if a0_5 = 0 then (if a0_6 = 0 then (some 0) else (some 2)) else (some 2)) else (some 2)) else (if a0_0 = 3 then ((aim_Of.f (wrap64 (a0_1 - 2)) a0_4 a0_5 a0_6).bind fun b_0 => (some b_0.2.2.2)) else (if a0_0 = 4 then (if a0_4 = 0 then (YF.j0 k (a0_5 != 0) a0_0 a0_1 a0_2 a0_3 a0_4 a0_5 a0_6) else (YF.j0 k true a0_0 a0_1 a0_2 a0_3 a0_4 a0_5 a0_6)) else (some 0))))
theorem YF.mono_l : ∀ k, (∀ y0 y1 y2 y3 y4 y5 y6 y7, LeO (YF.j0 k y0 y1 y2 y3 y4 y5 y6 y7) (YF.j0 (k + 1) y0 y1 y2 y3 y4 y5 y6 y7))
 | 0 => fun _ _ _ _ _ _ _ _ r h => by simp [YF.j0] at h
 | k + 1 => by
  have ih0 := YF.mono_l k
  ·intro y0 y1 y2 y3 y4 y5 y6 y7
   unfold YF.j0
   repeat' first
   | (with_reducible exact ih0 _ _ _ _ _ _ _ _)
   | (with_reducible exact LeO.refl _)
   | (with_reducible exact LeO.none _)
   | (with_reducible refine LeO.ite ?_ ?_)
   | (with_reducible refine LeO.bind ?_ (fun _ => ?_))
theorem YF.mono : ∀ a0 a1 a2 a3 a4 a5 a6 k, LeO (YF.f k a0 a1 a2 a3 a4 a5 a6) (YF.f (k + 1) a0 a1 a2 a3 a4 a5 a6) := by
 intro a0 a1 a2 a3 a4 a5 a6 k
 have ih0 := YF.mono_l k
 unfold YF.f
 repeat' first
   | (with_reducible exact ih0 _ _ _ _ _ _ _ _)
   | (with_reducible exact LeO.refl _)
   | (with_reducible exact LeO.none _)
   | (with_reducible refine LeO.ite ?_ ?_)
   | (with_reducible refine LeO.bind ?_ (fun _ => ?_))
set_option maxHeartbeats 8000000 in
set_option maxRecDepth 100000 in
theorem YF.calls (k : Nat) (a0_0 : Int) (a0_1 : Int) (a0_2 : Int) (a0_3 : Int) (a0_4 : Int) (a0_5 : Int) (a0_6 : Int) (r : Int) (w : World) (h : YF.f k a0_0 a0_1 a0_2 a0_3 a0_4 a0_5 a0_6 = some r) :
  Calls Try.prog 108 #[.agg #[.int .i64 a0_0, .int .i64 a0_1, .int .i64 a0_2, .int .i64 a0_3, .int .i64 a0_4, .int .i64 a0_5, .int .i64 a0_6]] w fun e w' => e = .returned (.int .i64 r) ∧ Below w.heap.size w w' := by
 have hu28 := Try.underlying28
 have hu153 := Try.underlying153
 have hu149 := Try.underlying149
 have HB := Y0.mk (Below.refl w.heap.size w)
 have H : (if a0_0 = 1 then ((dir_Check.f a0_4 a0_5).bind fun t_0 => (if t_0 = 0 then (if a0_6 = 0 then (some 0) else (some 2)) else (some t_0))) else (if a0_0 = 2 then (if a0_4 = 0 then (if a0_5 = 0 then (if a0_6 = 0 then (some 0) else (some 2)) else (some 2)) else (some 2)) else (if a0_0 = 3 then ((aim_Of.f (wrap64 (a0_1 - 2)) a0_4 a0_5 a0_6).bind fun b_0 => (some b_0.2.2.2)) else (if a0_0 = 4 then (if a0_4 = 0 then (YF.j0 k (a0_5 != 0) a0_0 a0_1 a0_2 a0_3 a0_4 a0_5 a0_6) else (YF.j0 k true a0_0 a0_1 a0_2 a0_3 a0_4 a0_5 a0_6)) else (some 0))))) = some r := h
 clear h
 by_cases c2 : a0_0 = 1
 ·rw [if_pos c2] at H
  have c2b0 := bqT c2
  have c2b1 := bnF c2
  clear c2
  obtain ⟨t_0, A30, H⟩ := bS H
  replace H : (if t_0 = 0 then (if a0_6 = 0 then (some 0) else (some 2)) else (some t_0)) = some r := H
  have A3 := Y0.mk A30
  clear A30
  by_cases c4 : t_0 = 0
  ·rw [if_pos c4] at H
   have c4b0 := bqT c4
   have c4b1 := bnF c4
   clear c4
   by_cases c5 : a0_6 = 0
   ·rw [if_pos c5] at H
    have c5b0 := bqT c5
    have c5b1 := bnF c5
    clear c5
    obtain rfl := Option.some.inj H
    go_enter Try.func108, Try.ntmps108
    go_wp2_with (first | ((with_reducible refine Ye (N := 1) rfl ?_); refine Yh ?hg (N := 1) ?hd (cs := #[.int .i64 a0_0, .int .i64 a0_1, .int .i64 a0_2, .int .i64 a0_3, .int .i64 a0_4, .int .i64 a0_5, .int .i64 a0_6]) (t := 28) ?hr ?_; (case hd => rfl); (case hg => rfl); (case hr => first | (go_simp; done) | (go_simp; rfl)); intro g_0 hg w6 hbox hb; have n0_ := Y0.mk (Y3 (hU HB.out) hb); have n1_ := Y0.mk (hbox); have n2_ := gE hg HB; have n3_ := gE hg HB; clear HB; have HB := n0_; have B_0 := n1_; have W_0 := n2_; have G_0 := n3_; clear n0_ n1_ n2_ n3_; clear hb hbox hg; have z_7 := Y2 B_0.out; have f_9 := Y7 B_0.out) | ((with_reducible refine Yc (f := 142) rfl ?_); refine goesA (some 14) Try.func142 #[.int .i64 a0_4, .int .i64 a0_5] ?_; (with_reducible refine (dir_Check.calls a0_4 a0_5 t_0 _ A3.out).mono ?_); rintro e w' ⟨rfl, ⟨nd, rfl⟩⟩; refine ⟨_, rfl, ?_⟩))
    go_ret
    exact ⟨reT, hU HB.out⟩
   ·rw [if_neg c5] at H
    have c5b0 := bqF c5
    have c5b1 := bnT c5
    obtain rfl := Option.some.inj H
    go_enter Try.func108, Try.ntmps108
    go_wp2_with (first | ((with_reducible refine Ye (N := 1) rfl ?_); refine Yh ?hg (N := 1) ?hd (cs := #[.int .i64 a0_0, .int .i64 a0_1, .int .i64 a0_2, .int .i64 a0_3, .int .i64 a0_4, .int .i64 a0_5, .int .i64 a0_6]) (t := 28) ?hr ?_; (case hd => rfl); (case hg => rfl); (case hr => first | (go_simp; done) | (go_simp; rfl)); intro g_0 hg w8 hbox hb; have n0_ := Y0.mk (Y3 (hU HB.out) hb); have n1_ := Y0.mk (hbox); have n2_ := gE hg HB; have n3_ := gE hg HB; clear HB; have HB := n0_; have B_0 := n1_; have W_0 := n2_; have G_0 := n3_; clear n0_ n1_ n2_ n3_; clear hb hbox hg; have z_3 := Y2 B_0.out; have f_4 := Y7 B_0.out) | ((with_reducible refine Yc (f := 142) rfl ?_); refine goesA (some 14) Try.func142 #[.int .i64 a0_4, .int .i64 a0_5] ?_; (with_reducible refine (dir_Check.calls a0_4 a0_5 t_0 _ A3.out).mono ?_); rintro e w' ⟨rfl, ⟨nd, rfl⟩⟩; refine ⟨_, rfl, ?_⟩))
    go_ret
    exact ⟨reT, hU HB.out⟩
  ·rw [if_neg c4] at H
   have c4b0 := bqF c4
   have c4b1 := bnT c4
   obtain rfl := Option.some.inj H
   go_enter Try.func108, Try.ntmps108
   go_wp2_with (first | ((with_reducible refine Ye (N := 1) rfl ?_); refine Yh ?hg (N := 1) ?hd (cs := #[.int .i64 a0_0, .int .i64 a0_1, .int .i64 a0_2, .int .i64 a0_3, .int .i64 a0_4, .int .i64 a0_5, .int .i64 a0_6]) (t := 28) ?hr ?_; (case hd => rfl); (case hg => rfl); (case hr => first | (go_simp; done) | (go_simp; rfl)); intro g_0 hg w10 hbox hb; have n0_ := Y0.mk (Y3 (hU HB.out) hb); have n1_ := Y0.mk (hbox); have n2_ := gE hg HB; have n3_ := gE hg HB; clear HB; have HB := n0_; have B_0 := n1_; have W_0 := n2_; have G_0 := n3_; clear n0_ n1_ n2_ n3_; clear hb hbox hg; have z_1 := Y2 B_0.out; have f_1 := Y7 B_0.out) | ((with_reducible refine Yc (f := 142) rfl ?_); refine goesA (some 14) Try.func142 #[.int .i64 a0_4, .int .i64 a0_5] ?_; (with_reducible refine (dir_Check.calls a0_4 a0_5 t_0 _ A3.out).mono ?_); rintro e w' ⟨rfl, ⟨nd, rfl⟩⟩; refine ⟨_, rfl, ?_⟩))
   go_ret
   exact ⟨reT, hU HB.out⟩
 ·rw [if_neg c2] at H
  have c2b0 := bqF c2
  have c2b1 := bnT c2
  by_cases c12 : a0_0 = 2
  ·rw [if_pos c12] at H
   have c12b0 := bqT c12
   have c12b1 := bnF c12
   clear c12
   by_cases c13 : a0_4 = 0
   ·rw [if_pos c13] at H
    have c13b0 := bqT c13
    have c13b1 := bnF c13
    clear c13
    by_cases c14 : a0_5 = 0
    ·rw [if_pos c14] at H
     have c14b0 := bqT c14
     have c14b1 := bnF c14
     clear c14
     by_cases c15 : a0_6 = 0
     ·rw [if_pos c15] at H
      have c15b0 := bqT c15
      have c15b1 := bnF c15
      clear c15
      obtain rfl := Option.some.inj H
      go_enter Try.func108, Try.ntmps108
      go_wp2_with (first | ((with_reducible refine Ye (N := 1) rfl ?_); refine Yh ?hg (N := 1) ?hd (cs := #[.int .i64 a0_0, .int .i64 a0_1, .int .i64 a0_2, .int .i64 a0_3, .int .i64 a0_4, .int .i64 a0_5, .int .i64 a0_6]) (t := 28) ?hr ?_; (case hd => rfl); (case hg => rfl); (case hr => first | (go_simp; done) | (go_simp; rfl)); intro g_0 hg w16 hbox hb; have n0_ := Y0.mk (Y3 (hU HB.out) hb); have n1_ := Y0.mk (hbox); have n2_ := gE hg HB; have n3_ := gE hg HB; clear HB; have HB := n0_; have B_0 := n1_; have W_0 := n2_; have G_0 := n3_; clear n0_ n1_ n2_ n3_; clear hb hbox hg; have z_b := Y2 B_0.out; have f_b := Y7 B_0.out))
      go_ret
      exact ⟨reT, hU HB.out⟩
     ·rw [if_neg c15] at H
      have c15b0 := bqF c15
      have c15b1 := bnT c15
      obtain rfl := Option.some.inj H
      go_enter Try.func108, Try.ntmps108
      go_wp2_with (first | ((with_reducible refine Ye (N := 1) rfl ?_); refine Yh ?hg (N := 1) ?hd (cs := #[.int .i64 a0_0, .int .i64 a0_1, .int .i64 a0_2, .int .i64 a0_3, .int .i64 a0_4, .int .i64 a0_5, .int .i64 a0_6]) (t := 28) ?hr ?_; (case hd => rfl); (case hg => rfl); (case hr => first | (go_simp; done) | (go_simp; rfl)); intro g_0 hg w18 hbox hb; have n0_ := Y0.mk (Y3 (hU HB.out) hb); have n1_ := Y0.mk (hbox); have n2_ := gE hg HB; have n3_ := gE hg HB; clear HB; have HB := n0_; have B_0 := n1_; have W_0 := n2_; have G_0 := n3_; clear n0_ n1_ n2_ n3_; clear hb hbox hg; have z_2 := Y2 B_0.out; have f_6 := Y7 B_0.out))
      go_ret
      exact ⟨reT, hU HB.out⟩
    ·rw [if_neg c14] at H
     have c14b0 := bqF c14
     have c14b1 := bnT c14
     obtain rfl := Option.some.inj H
     go_enter Try.func108, Try.ntmps108
     go_wp2_with (first | ((with_reducible refine Ye (N := 1) rfl ?_); refine Yh ?hg (N := 1) ?hd (cs := #[.int .i64 a0_0, .int .i64 a0_1, .int .i64 a0_2, .int .i64 a0_3, .int .i64 a0_4, .int .i64 a0_5, .int .i64 a0_6]) (t := 28) ?hr ?_; (case hd => rfl); (case hg => rfl); (case hr => first | (go_simp; done) | (go_simp; rfl)); intro g_0 hg w20 hbox hb; have n0_ := Y0.mk (Y3 (hU HB.out) hb); have n1_ := Y0.mk (hbox); have n2_ := gE hg HB; have n3_ := gE hg HB; clear HB; have HB := n0_; have B_0 := n1_; have W_0 := n2_; have G_0 := n3_; clear n0_ n1_ n2_ n3_; clear hb hbox hg; have z_6 := Y2 B_0.out; have f_5 := Y7 B_0.out))
     go_ret
     exact ⟨reT, hU HB.out⟩
   ·rw [if_neg c13] at H
    have c13b0 := bqF c13
    have c13b1 := bnT c13
    obtain rfl := Option.some.inj H
    go_enter Try.func108, Try.ntmps108
    go_wp2_with (first | ((with_reducible refine Ye (N := 1) rfl ?_); refine Yh ?hg (N := 1) ?hd (cs := #[.int .i64 a0_0, .int .i64 a0_1, .int .i64 a0_2, .int .i64 a0_3, .int .i64 a0_4, .int .i64 a0_5, .int .i64 a0_6]) (t := 28) ?hr ?_; (case hd => rfl); (case hg => rfl); (case hr => first | (go_simp; done) | (go_simp; rfl)); intro g_0 hg w22 hbox hb; have n0_ := Y0.mk (Y3 (hU HB.out) hb); have n1_ := Y0.mk (hbox); have n2_ := gE hg HB; have n3_ := gE hg HB; clear HB; have HB := n0_; have B_0 := n1_; have W_0 := n2_; have G_0 := n3_; clear n0_ n1_ n2_ n3_; clear hb hbox hg; have z_9 := Y2 B_0.out; have f_0 := Y7 B_0.out))
    go_ret
    exact ⟨reT, hU HB.out⟩
  ·rw [if_neg c12] at H
   have c12b0 := bqF c12
   have c12b1 := bnT c12
   by_cases c24 : a0_0 = 3
   ·rw [if_pos c24] at H
    have c24b0 := bqT c24
    have c24b1 := bnF c24
    clear c24
    obtain ⟨⟨t_4, t_3, t_2, t_1⟩, A250, H⟩ := bS H
    replace H : (some t_1) = some r := H
    have A25 := Y0.mk A250
    clear A250
    obtain rfl := Option.some.inj H
    go_enter Try.func108, Try.ntmps108
    go_wp2_with (first | ((with_reducible refine Ye (N := 1) rfl ?_); refine Yh ?hg (N := 1) ?hd (cs := #[.int .i64 a0_0, .int .i64 a0_1, .int .i64 a0_2, .int .i64 a0_3, .int .i64 a0_4, .int .i64 a0_5, .int .i64 a0_6]) (t := 28) ?hr ?_; (case hd => rfl); (case hg => rfl); (case hr => first | (go_simp; done) | (go_simp; rfl)); intro g_0 hg w26 hbox hb; have n0_ := Y0.mk (Y3 (hU HB.out) hb); have n1_ := Y0.mk (hbox); have n2_ := gE hg HB; have n3_ := gE hg HB; clear HB; have HB := n0_; have B_0 := n1_; have W_0 := n2_; have G_0 := n3_; clear n0_ n1_ n2_ n3_; clear hb hbox hg; have z_8 := Y2 B_0.out; have f_7 := Y7 B_0.out) | ((with_reducible refine Yc (f := 143) rfl ?_); refine goesA (some 49) Try.func143 #[.int .i64 (wrap64 (a0_1 - 2)), .agg #[.int .i64 a0_4, .int .i64 a0_5, .int .i64 a0_6]] ?_; (with_reducible refine (aim_Of.calls (wrap64 (a0_1 - 2)) a0_4 a0_5 a0_6 t_4 t_3 t_2 t_1 _ A25.out).mono ?_); rintro e w28 ⟨rfl, hb⟩; refine ⟨_, rfl, ?_⟩; replace B_0 := Y0.mk (Y1 (bU B_0.out) hb); replace HB := Y0.mk (Y3 (hU HB.out) hb); (try clear hb); (try clear hb2); (try clear hk); (try clear hi)) | ((with_reducible refine Ye (N := 4) rfl ?_); refine Yh ?hg (N := 4) ?hd (cs := #[.int .i64 0, .int .i64 0, .int .i64 0]) (t := 149) ?hr ?_; (case hd => rfl); (case hg => rfl); (case hr => first | (go_simp; done) | (go_simp; rfl)); intro g_1 hg w29 hbox hb; have n0_ := Y0.mk (Y1 (bU B_0.out) hb); have n1_ := Y0.mk (Y3 (hU HB.out) hb); have n2_ := Y0.mk (hbox); have n3_ := gE hg HB; have n4_ := gE hg HB; have n5_ := gL hg B_0; have n6_ := gG hg B_0; clear B_0; clear HB; have B_0 := n0_; have HB := n1_; have B_1 := n2_; have W_1 := n3_; have G_1 := n4_; have N_0 := n5_; have N_1 := n6_; clear n0_ n1_ n2_ n3_ n4_ n5_ n6_; clear hb hbox hg; have hnb30 := N_1.out; have hnc30 := N_0.out; have z_0 := Y2 B_1.out; have f_3 := Y7 B_1.out))
    go_ret
    exact ⟨reT, hU HB.out⟩
   ·rw [if_neg c24] at H
    have c24b0 := bqF c24
    have c24b1 := bnT c24
    by_cases c32 : a0_0 = 4
    ·rw [if_pos c32] at H
     have c32b0 := bqT c32
     have c32b1 := bnF c32
     clear c32
     have HC33 := Y0.mk H
     clear H
     go_enter Try.func108, Try.ntmps108
     go_upto_region 15 with (first | ((with_reducible refine Ye (N := 1) rfl ?_); refine Yh ?hg (N := 1) ?hd (cs := #[.int .i64 a0_0, .int .i64 a0_1, .int .i64 a0_2, .int .i64 a0_3, .int .i64 a0_4, .int .i64 a0_5, .int .i64 a0_6]) (t := 28) ?hr ?_; (case hd => rfl); (case hg => rfl); (case hr => first | (go_simp; done) | (go_simp; rfl)); intro g_0 hg w34 hbox hb; have n0_ := Y0.mk (Y3 (hU HB.out) hb); have n1_ := Y0.mk (hbox); have n2_ := gE hg HB; have n3_ := gE hg HB; clear HB; have HB := n0_; have B_0 := n1_; have W_0 := n2_; have G_0 := n3_; clear n0_ n1_ n2_ n3_; clear hb hbox hg; have z_5 := Y2 B_0.out; have f_a := Y7 B_0.out))
     (try simp only [Act.put, List.setIfInBounds_toArray, List.set_cons_zero, List.set_cons_succ])
     go_cut [62] (fun v62 wc => ∃ (kq : Nat) (x62_32 : Bool), v62 = .bool x62_32 ∧ Y0 (YF.j0 kq x62_32 a0_0 a0_1 a0_2 a0_3 a0_4 a0_5 a0_6 = some r) ∧ Y0 (kq ≤ k) ∧ Y0 (wc.heap[g_0]? = some (.cells #[.int .i64 a0_0, .int .i64 a0_1, .int .i64 a0_2, .int .i64 a0_3, .int .i64 a0_4, .int .i64 a0_5, .int .i64 a0_6] 28 (0, 0))) ∧ Y0 (Below w.heap.size w wc))
     case first =>
      have H := HC33.out
      clear HC33
      by_cases c36 : a0_4 = 0
      ·rw [if_pos c36] at H
       have c36b0 := bqT c36
       have c36b1 := bnF c36
       clear c36
       (first | rw [c36b0] | (simp only [i64_w, i32_w]; rw [c36b0]) | skip)
       have H' := Y0.mk H
       clear H
       have z_a := Y2 B_0.out
       have f_8 := Y7 B_0.out
       go_wp2
       go_meet
       case rel => exact ⟨_, ((a0_5 != 0)), reS, H', ⟨by first | omega | exact Nat.le_refl _⟩, ⟨kB B_0⟩, ⟨hU HB.out⟩⟩
      ·rw [if_neg c36] at H
       have c36b0 := bqF c36
       have c36b1 := bnT c36
       (first | rw [c36b0] | (simp only [i64_w, i32_w]; rw [c36b0]) | skip)
       have H' := Y0.mk H
       clear H
       have z_4 := Y2 B_0.out
       have f_2 := Y7 B_0.out
       go_wp2
       go_meet
       case rel => exact ⟨_, (true), reS, H', ⟨by first | omega | exact Nat.le_refl _⟩, ⟨kB B_0⟩, ⟨hU HB.out⟩⟩
     case rest =>
      clear HC33
      try clear c1
      try clear c2
      try clear c2b0
      try clear c2b1
      try clear p2
      try clear c3
      try clear c4
      try clear c4b0
      try clear c4b1
      try clear c5
      try clear c5b0
      try clear c5b1
      try clear p6
      try clear c10
      try clear c12
      try clear c12b0
      try clear c12b1
      try clear c13
      try clear c13b0
      try clear c13b1
      try clear c14
      try clear c14b0
      try clear c14b1
      try clear c15
      try clear c15b0
      try clear c15b1
      try clear c24
      try clear c24b0
      try clear c24b1
      try clear c30
      try clear c32
      try clear c32b0
      try clear c32b1
      try clear c36
      try clear c36b0
      try clear c36b1
      try clear z_1
      try clear z_1e
      try clear z_1c
      try clear z_w
      try clear z_x
      try clear z_18
      try clear z_q
      try clear z_b
      try clear z_1l
      try clear z_g
      try clear z_d
      try clear z_o
      try clear z_e
      try clear z_27
      try clear z_2
      try clear z_v
      try clear z_13
      try clear z_m
      try clear z_14
      try clear z_1f
      try clear z_1z
      try clear z_6
      try clear z_1u
      try clear z_1s
      try clear z_k
      try clear z_20
      try clear z_p
      try clear z_1w
      try clear z_9
      try clear z_16
      try clear z_2c
      try clear z_t
      try clear z_u
      try clear z_1m
      try clear z_1b
      try clear z_8
      try clear z_1p
      try clear z_23
      try clear z_1g
      try clear z_21
      try clear z_15
      try clear z_j
      try clear z_0
      try clear z_2b
      try clear z_s
      try clear z_5
      try clear z_1d
      try clear z_10
      try clear z_29
      try clear z_19
      try clear z_c
      try clear z_i
      try clear z_a
      try clear z_28
      try clear z_1q
      try clear z_r
      try clear z_f
      try clear z_z
      try clear z_1y
      try clear z_4
      try clear z_1n
      try clear z_26
      try clear z_22
      try clear z_n
      try clear z_12
      try clear z_1v
      try clear z_7
      try clear z_1x
      try clear z_1k
      try clear z_1j
      try clear z_1a
      try clear z_17
      try clear z_1o
      try clear z_3
      try clear z_24
      try clear z_11
      try clear z_1r
      try clear z_1i
      try clear z_2a
      try clear z_h
      try clear f_1
      try clear f_p
      try clear f_15
      try clear f_10
      try clear f_h
      try clear f_r
      try clear f_16
      try clear f_b
      try clear f_s
      try clear f_1w
      try clear f_23
      try clear f_l
      try clear f_13
      try clear f_24
      try clear f_6
      try clear f_20
      try clear f_1d
      try clear f_1c
      try clear f_g
      try clear f_z
      try clear f_2c
      try clear f_5
      try clear f_u
      try clear f_14
      try clear f_1m
      try clear f_21
      try clear f_f
      try clear f_1t
      try clear f_0
      try clear f_1v
      try clear f_1e
      try clear f_25
      try clear f_m
      try clear f_1p
      try clear f_1n
      try clear f_7
      try clear f_26
      try clear f_1q
      try clear f_j
      try clear f_19
      try clear f_e
      try clear f_c
      try clear f_3
      try clear f_1z
      try clear f_i
      try clear f_a
      try clear f_w
      try clear f_x
      try clear f_1u
      try clear f_1i
      try clear f_18
      try clear f_1j
      try clear f_8
      try clear f_1f
      try clear f_29
      try clear f_1k
      try clear f_1g
      try clear f_1x
      try clear f_d
      try clear f_2
      try clear f_1s
      try clear f_12
      try clear f_22
      try clear f_1y
      try clear f_o
      try clear f_k
      try clear f_9
      try clear f_1b
      try clear f_1a
      try clear f_v
      try clear f_2b
      try clear f_2a
      try clear f_1l
      try clear f_4
      try clear f_t
      try clear f_17
      try clear f_28
      try clear f_q
      try clear f_1o
      try clear f_n
      obtain ⟨kq, x62_32, rfl, HA, HJ32, B_0, HB⟩ := hcut
      cases kq with
      | zero => exact absurd HA.out (by simp [YF.j0])
      | succ kj32 =>
       have H := HA.out
       clear HA
       simp only [YF.j0] at H
       by_cases c39 : x62_32 = true
       ·subst c39
        have H1 : (some 2) = some r := by rw [if_pos rfl] at H; exact H
        clear H
        have H := H1
        clear H1
        obtain rfl := Option.some.inj H
        go_wp2
        go_ret
        exact ⟨reT, hU HB.out⟩
       ·replace c39 := Bool.eq_false_iff.mpr c39
        subst c39
        have H1 : (if a0_6 < (-16) then (some 1) else (if a0_6 > 16 then (some 1) else (if a0_6 = 0 then (some 1) else (some 0)))) = some r := by rw [if_neg (show ¬ (false = true) by decide)] at H; exact H
        clear H
        have H := H1
        clear H1
        by_cases c40 : a0_6 < (-16)
        ·rw [if_pos c40] at H
         have c40b0 := decide_eq_true c40
         clear c40
         obtain rfl := Option.some.inj H
         have z_25 := Y2 B_0.out
         have f_1h := Y7 B_0.out
         go_wp2
         go_ret
         exact ⟨reT, hU HB.out⟩
        ·rw [if_neg c40] at H
         have c40b0 := decide_eq_false c40
         clear c40
         by_cases c42 : a0_6 > 16
         ·rw [if_pos c42] at H
          have c42b0 := decide_eq_true c42
          clear c42
          obtain rfl := Option.some.inj H
          have z_l := Y2 B_0.out
          have f_11 := Y7 B_0.out
          go_wp2
          go_ret
          exact ⟨reT, hU HB.out⟩
         ·rw [if_neg c42] at H
          have c42b0 := decide_eq_false c42
          clear c42
          by_cases c44 : a0_6 = 0
          ·rw [if_pos c44] at H
           have c44b0 := bqT c44
           have c44b1 := bnF c44
           clear c44
           obtain rfl := Option.some.inj H
           have z_1h := Y2 B_0.out
           have f_27 := Y7 B_0.out
           go_wp2
           go_ret
           exact ⟨reT, hU HB.out⟩
          ·rw [if_neg c44] at H
           have c44b0 := bqF c44
           have c44b1 := bnT c44
           obtain rfl := Option.some.inj H
           have z_y := Y2 B_0.out
           have f_1r := Y7 B_0.out
           go_wp2
           go_ret
           exact ⟨reT, hU HB.out⟩
    ·rw [if_neg c32] at H
     have c32b0 := bqF c32
     have c32b1 := bnT c32
     obtain rfl := Option.some.inj H
     go_enter Try.func108, Try.ntmps108
     go_wp2_with (first | ((with_reducible refine Ye (N := 1) rfl ?_); refine Yh ?hg (N := 1) ?hd (cs := #[.int .i64 a0_0, .int .i64 a0_1, .int .i64 a0_2, .int .i64 a0_3, .int .i64 a0_4, .int .i64 a0_5, .int .i64 a0_6]) (t := 28) ?hr ?_; (case hd => rfl); (case hg => rfl); (case hr => first | (go_simp; done) | (go_simp; rfl)); intro g_0 hg w47 hbox hb; have n0_ := Y0.mk (Y3 (hU HB.out) hb); have n1_ := Y0.mk (hbox); have n2_ := gE hg HB; have n3_ := gE hg HB; clear HB; have HB := n0_; have B_0 := n1_; have W_0 := n2_; have G_0 := n3_; clear n0_ n1_ n2_ n3_; clear hb hbox hg; have z_1t := Y2 B_0.out; have f_y := Y7 B_0.out))
     go_ret
     exact ⟨reT, hU HB.out⟩
def Yv.j0 : Nat → Bool → Int → Int → Int → Int → Int → Int → Int → Option (Int)
 | 0, _, _, _, _, _, _, _, _ => none
 | k + 1, x3, x_4, x_6, x_0, x_1, x_5, x_2, x_3 => if x3 = true then (some 9) else ((Y1c.f x_4 x_6 x_0 x_1 x_5 x_2 x_3).bind fun t_1 => (if t_1 = true then (if x_0 < 0 then (some 1) else (if x_0 ≥ 8192 then (some 1) else (if x_1 < 1 then (some 1) else (if x_1 > (wrap64 (8192 - x_0)) then (some 1) else ((YF.f k x_4 x_6 x_0 x_1 x_5 x_2 x_3).bind fun t_0 => (some t_0)))))) else (some 16)))
def Yv.f (k : Nat) (a0_0 : Int) (a0_1 : Int) (a0_2 : Int) (a0_3 : Int) (a0_4 : Int) (a0_5 : Int) (a0_6 : Int) : Option (Int) := if a0_0 < 1 then (Yv.j0 k true a0_0 a0_1 a0_2 a0_3 a0_4 a0_5 a0_6) else (Yv.j0 k (decide (a0_0 > 4)) a0_0 a0_1 a0_2 a0_3 a0_4 a0_5 a0_6)
theorem Yv.mono_l : ∀ k, (∀ y0 y1 y2 y3 y4 y5 y6 y7, LeO (Yv.j0 k y0 y1 y2 y3 y4 y5 y6 y7) (Yv.j0 (k + 1) y0 y1 y2 y3 y4 y5 y6 y7))
 | 0 => fun _ _ _ _ _ _ _ _ r h => by simp [Yv.j0] at h
 | k + 1 => by
  have ih0 := Yv.mono_l k
  ·intro y0 y1 y2 y3 y4 y5 y6 y7
   unfold Yv.j0
   repeat' first
   | (with_reducible exact ih0 _ _ _ _ _ _ _ _)
   | (with_reducible exact YF.mono _ _ _ _ _ _ _ _)
   | (with_reducible exact LeO.refl _)
   | (with_reducible exact LeO.none _)
   | (with_reducible refine LeO.ite ?_ ?_)
   | (with_reducible refine LeO.bind ?_ (fun _ => ?_))
theorem Yv.mono : ∀ a0 a1 a2 a3 a4 a5 a6 k, LeO (Yv.f k a0 a1 a2 a3 a4 a5 a6) (Yv.f (k + 1) a0 a1 a2 a3 a4 a5 a6) := by
 intro a0 a1 a2 a3 a4 a5 a6 k
 have ih0 := Yv.mono_l k
 unfold Yv.f
 repeat' first
   | (with_reducible exact ih0 _ _ _ _ _ _ _ _)
   | (with_reducible exact YF.mono _ _ _ _ _ _ _ _)
   | (with_reducible exact LeO.refl _)
   | (with_reducible exact LeO.none _)
   | (with_reducible refine LeO.ite ?_ ?_)
   | (with_reducible refine LeO.bind ?_ (fun _ => ?_))
set_option maxHeartbeats 8000000 in
set_option maxRecDepth 100000 in
theorem Yv.calls (k : Nat) (a0_0 : Int) (a0_1 : Int) (a0_2 : Int) (a0_3 : Int) (a0_4 : Int) (a0_5 : Int) (a0_6 : Int) (r : Int) (w : World) (h : Yv.f k a0_0 a0_1 a0_2 a0_3 a0_4 a0_5 a0_6 = some r) :
  Calls Try.prog 77 #[.agg #[.int .i64 a0_0, .int .i64 a0_1, .int .i64 a0_2, .int .i64 a0_3, .int .i64 a0_4, .int .i64 a0_5, .int .i64 a0_6]] w fun e w' => e = .returned (.int .i64 r) ∧ Below w.heap.size w w' := by
 have hu28 := Try.underlying28
 have HB := Y0.mk (Below.refl w.heap.size w)
 have H : (if a0_0 < 1 then (Yv.j0 k true a0_0 a0_1 a0_2 a0_3 a0_4 a0_5 a0_6) else (Yv.j0 k (decide (a0_0 > 4)) a0_0 a0_1 a0_2 a0_3 a0_4 a0_5 a0_6)) = some r := h
 clear h
 have HC2 := Y0.mk H
 clear H
 go_enter Try.func77, Try.ntmps77
 go_upto_region 1 with (first | ((with_reducible refine Ye (N := 1) rfl ?_); refine Yh ?hg (N := 1) ?hd (cs := #[.int .i64 a0_0, .int .i64 a0_1, .int .i64 a0_2, .int .i64 a0_3, .int .i64 a0_4, .int .i64 a0_5, .int .i64 a0_6]) (t := 28) ?hr ?_; (case hd => rfl); (case hg => rfl); (case hr => first | (go_simp; done) | (go_simp; rfl)); intro g_0 hg w3 hbox hb; have n0_ := Y0.mk (Y3 (hU HB.out) hb); have n1_ := Y0.mk (hbox); have n2_ := gE hg HB; have n3_ := gE hg HB; clear HB; have HB := n0_; have B_0 := n1_; have W_0 := n2_; have G_0 := n3_; clear n0_ n1_ n2_ n3_; clear hb hbox hg))
 (try simp only [Act.put, List.setIfInBounds_toArray, List.set_cons_zero, List.set_cons_succ])
 go_cut [3] (fun v3 wc => ∃ (kq : Nat) (x3_1 : Bool), v3 = .bool x3_1 ∧ Y0 (Yv.j0 kq x3_1 a0_0 a0_1 a0_2 a0_3 a0_4 a0_5 a0_6 = some r) ∧ Y0 (kq ≤ k) ∧ Y0 (wc.heap[g_0]? = some (.cells #[.int .i64 a0_0, .int .i64 a0_1, .int .i64 a0_2, .int .i64 a0_3, .int .i64 a0_4, .int .i64 a0_5, .int .i64 a0_6] 28 (0, 0))) ∧ Y0 (Below w.heap.size w wc))
 case first =>
  have H := HC2.out
  clear HC2
  by_cases c4 : a0_0 < 1
  ·rw [if_pos c4] at H
   have c4b0 := decide_eq_true c4
   clear c4
   (first | rw [c4b0] | (simp only [i64_w, i32_w]; rw [c4b0]) | skip)
   have H' := Y0.mk H
   clear H
   have z_0 := Y2 B_0.out
   have f_0 := Y7 B_0.out
   go_wp2
   go_meet
   case rel => exact ⟨_, (true), reS, H', ⟨by first | omega | exact Nat.le_refl _⟩, ⟨kB B_0⟩, ⟨hU HB.out⟩⟩
  ·rw [if_neg c4] at H
   have c4b0 := decide_eq_false c4
   clear c4
   (first | rw [c4b0] | (simp only [i64_w, i32_w]; rw [c4b0]) | skip)
   have H' := Y0.mk H
   clear H
   have z_1 := Y2 B_0.out
   have f_1 := Y7 B_0.out
   go_wp2
   go_meet
   case rel => exact ⟨_, (decide (a0_0 > 4)), reS, H', ⟨by first | omega | exact Nat.le_refl _⟩, ⟨kB B_0⟩, ⟨hU HB.out⟩⟩
 case rest =>
  clear HC2
  try clear p2
  try clear c4
  try clear c4b0
  try clear z_0
  try clear z_h
  try clear z_j
  try clear z_i
  try clear z_c
  try clear z_4
  try clear z_m
  try clear z_1
  try clear z_l
  try clear z_k
  try clear z_e
  try clear z_d
  try clear z_7
  try clear z_5
  try clear f_0
  try clear f_o
  try clear f_i
  try clear f_b
  try clear f_e
  try clear f_8
  try clear f_9
  try clear f_1
  try clear f_a
  try clear f_d
  try clear f_l
  try clear f_f
  try clear f_n
  try clear f_h
  obtain ⟨kq, x3_1, rfl, HA, HJ1, B_0, HB⟩ := hcut
  cases kq with
  | zero => exact absurd HA.out (by simp [Yv.j0])
  | succ kj1 =>
   have H := HA.out
   clear HA
   simp only [Yv.j0] at H
   by_cases c7 : x3_1 = true
   ·subst c7
    have H1 : (some 9) = some r := by rw [if_pos rfl] at H; exact H
    clear H
    have H := H1
    clear H1
    obtain rfl := Option.some.inj H
    go_wp2
    go_ret
    exact ⟨reT, hU HB.out⟩
   ·replace c7 := Bool.eq_false_iff.mpr c7
    subst c7
    rw [if_neg (show ¬ (false = true) by decide)] at H
    obtain ⟨t_1, A80, H⟩ := bS H
    try dsimp only at H
    have A8 := Y0.mk A80
    clear A80
    by_cases c9 : t_1 = true
    ·subst c9
     rw [if_pos rfl] at H
     by_cases c10 : a0_2 < 0
     ·rw [if_pos c10] at H
      have c10b0 := decide_eq_true c10
      clear c10
      obtain rfl := Option.some.inj H
      have z_9 := Y2 B_0.out
      have f_5 := Y7 B_0.out
      go_wp2_with (first | ((with_reducible refine Yc (f := 107) rfl ?_); refine goesA (some 14) Try.func107 #[.agg #[.int .i64 a0_0, .int .i64 a0_1, .int .i64 a0_2, .int .i64 a0_3, .int .i64 a0_4, .int .i64 a0_5, .int .i64 a0_6]] ?_; (with_reducible refine (Y1c.calls a0_0 a0_1 a0_2 a0_3 a0_4 a0_5 a0_6 true _ A8.out).mono ?_); rintro e w12 ⟨rfl, hb⟩; refine ⟨_, rfl, ?_⟩; replace B_0 := Y0.mk (Y1 (bU B_0.out) hb); replace HB := Y0.mk (Y3 (hU HB.out) hb); (try clear hb); (try clear hb2); (try clear hk); (try clear hi); have z_a := Y2 B_0.out; have f_m := Y7 B_0.out))
      go_ret
      exact ⟨reT, hU HB.out⟩
     ·rw [if_neg c10] at H
      have c10b0 := decide_eq_false c10
      clear c10
      by_cases c14 : a0_2 ≥ 8192
      ·rw [if_pos c14] at H
       have c14b0 := decide_eq_true c14
       clear c14
       obtain rfl := Option.some.inj H
       have z_8 := Y2 B_0.out
       have f_7 := Y7 B_0.out
       go_wp2_with (first | ((with_reducible refine Yc (f := 107) rfl ?_); refine goesA (some 14) Try.func107 #[.agg #[.int .i64 a0_0, .int .i64 a0_1, .int .i64 a0_2, .int .i64 a0_3, .int .i64 a0_4, .int .i64 a0_5, .int .i64 a0_6]] ?_; (with_reducible refine (Y1c.calls a0_0 a0_1 a0_2 a0_3 a0_4 a0_5 a0_6 true _ A8.out).mono ?_); rintro e w16 ⟨rfl, hb⟩; refine ⟨_, rfl, ?_⟩; replace B_0 := Y0.mk (Y1 (bU B_0.out) hb); replace HB := Y0.mk (Y3 (hU HB.out) hb); (try clear hb); (try clear hb2); (try clear hk); (try clear hi); have z_n := Y2 B_0.out; have f_k := Y7 B_0.out))
       go_ret
       exact ⟨reT, hU HB.out⟩
      ·rw [if_neg c14] at H
       have c14b0 := decide_eq_false c14
       clear c14
       by_cases c18 : a0_3 < 1
       ·rw [if_pos c18] at H
        have c18b0 := decide_eq_true c18
        clear c18
        obtain rfl := Option.some.inj H
        have z_3 := Y2 B_0.out
        have f_g := Y7 B_0.out
        go_wp2_with (first | ((with_reducible refine Yc (f := 107) rfl ?_); refine goesA (some 14) Try.func107 #[.agg #[.int .i64 a0_0, .int .i64 a0_1, .int .i64 a0_2, .int .i64 a0_3, .int .i64 a0_4, .int .i64 a0_5, .int .i64 a0_6]] ?_; (with_reducible refine (Y1c.calls a0_0 a0_1 a0_2 a0_3 a0_4 a0_5 a0_6 true _ A8.out).mono ?_); rintro e w20 ⟨rfl, hb⟩; refine ⟨_, rfl, ?_⟩; replace B_0 := Y0.mk (Y1 (bU B_0.out) hb); replace HB := Y0.mk (Y3 (hU HB.out) hb); (try clear hb); (try clear hb2); (try clear hk); (try clear hi); have z_g := Y2 B_0.out; have f_c := Y7 B_0.out))
        go_ret
        exact ⟨reT, hU HB.out⟩
       ·rw [if_neg c18] at H
        have c18b0 := decide_eq_false c18
        clear c18
        by_cases c22 : a0_3 > (wrap64 (8192 - a0_2))
        ·rw [if_pos c22] at H
         have c22b0 := decide_eq_true c22
         clear c22
         obtain rfl := Option.some.inj H
         have z_b := Y2 B_0.out
         have f_4 := Y7 B_0.out
         go_wp2_with (first | ((with_reducible refine Yc (f := 107) rfl ?_); refine goesA (some 14) Try.func107 #[.agg #[.int .i64 a0_0, .int .i64 a0_1, .int .i64 a0_2, .int .i64 a0_3, .int .i64 a0_4, .int .i64 a0_5, .int .i64 a0_6]] ?_; (with_reducible refine (Y1c.calls a0_0 a0_1 a0_2 a0_3 a0_4 a0_5 a0_6 true _ A8.out).mono ?_); rintro e w24 ⟨rfl, hb⟩; refine ⟨_, rfl, ?_⟩; replace B_0 := Y0.mk (Y1 (bU B_0.out) hb); replace HB := Y0.mk (Y3 (hU HB.out) hb); (try clear hb); (try clear hb2); (try clear hk); (try clear hi); have z_f := Y2 B_0.out; have f_2 := Y7 B_0.out))
         go_ret
         exact ⟨reT, hU HB.out⟩
        ·rw [if_neg c22] at H
         have c22b0 := decide_eq_false c22
         clear c22
         obtain ⟨t_0, A260, H⟩ := bS H
         replace H : (some t_0) = some r := H
         have A26 := Y0.mk A260
         clear A260
         obtain rfl := Option.some.inj H
         have z_6 := Y2 B_0.out
         have f_j := Y7 B_0.out
         go_wp2_with (first | ((with_reducible refine Yc (f := 107) rfl ?_); refine goesA (some 14) Try.func107 #[.agg #[.int .i64 a0_0, .int .i64 a0_1, .int .i64 a0_2, .int .i64 a0_3, .int .i64 a0_4, .int .i64 a0_5, .int .i64 a0_6]] ?_; (with_reducible refine (Y1c.calls a0_0 a0_1 a0_2 a0_3 a0_4 a0_5 a0_6 true _ A8.out).mono ?_); rintro e w28 ⟨rfl, hb⟩; refine ⟨_, rfl, ?_⟩; replace B_0 := Y0.mk (Y1 (bU B_0.out) hb); replace HB := Y0.mk (Y3 (hU HB.out) hb); (try clear hb); (try clear hb2); (try clear hk); (try clear hi); have z_o := Y2 B_0.out; have f_3 := Y7 B_0.out) | ((with_reducible refine Yc (f := 108) rfl ?_); refine goesA (some 39) Try.func108 #[.agg #[.int .i64 a0_0, .int .i64 a0_1, .int .i64 a0_2, .int .i64 a0_3, .int .i64 a0_4, .int .i64 a0_5, .int .i64 a0_6]] ?_; (with_reducible refine (YF.calls kj1 a0_0 a0_1 a0_2 a0_3 a0_4 a0_5 a0_6 t_0 _ A26.out).mono ?_); rintro e w30 ⟨rfl, hb⟩; refine ⟨_, rfl, ?_⟩; replace B_0 := Y0.mk (Y1 (bU B_0.out) hb); replace HB := Y0.mk (Y3 (hU HB.out) hb); (try clear hb); (try clear hb2); (try clear hk); (try clear hi)))
         go_ret
         exact ⟨reT, hU HB.out⟩
    ·replace c9 := Bool.eq_false_iff.mpr c9
     subst c9
     have H1 : (some 16) = some r := by rw [if_neg (show ¬ (false = true) by decide)] at H; exact H
     clear H
     have H := H1
     clear H1
     obtain rfl := Option.some.inj H
     have z_2 := Y2 B_0.out
     have f_6 := Y7 B_0.out
     go_wp2_with (first | ((with_reducible refine Yc (f := 107) rfl ?_); refine goesA (some 14) Try.func107 #[.agg #[.int .i64 a0_0, .int .i64 a0_1, .int .i64 a0_2, .int .i64 a0_3, .int .i64 a0_4, .int .i64 a0_5, .int .i64 a0_6]] ?_; (with_reducible refine (Y1c.calls a0_0 a0_1 a0_2 a0_3 a0_4 a0_5 a0_6 false _ A8.out).mono ?_); rintro e w32 ⟨rfl, hb⟩; refine ⟨_, rfl, ?_⟩; replace B_0 := Y0.mk (Y1 (bU B_0.out) hb); replace HB := Y0.mk (Y3 (hU HB.out) hb); (try clear hb); (try clear hb2); (try clear hk); (try clear hi)))
     go_ret
     exact ⟨reT, hU HB.out⟩
end Go.Proofs.Yteopkkoblbmggaa.P
end
section
namespace Go.Proofs.Yteopkkoblbmggaa.P
open Go.RowKit Go.Proofs.YteopkkoblbmggaaW.PrintWords Go.Proofs.YteopkkoblbmggaaW.PrintLast Go.Proofs.YteopkkoblbmggaaW.PrintMore
attribute [local go_sem] YR YT Y11 Y12 YI YJ YS YU
set_option linter.unusedVariables false
set_option linter.unusedSimpArgs false
attribute [local go_sem high] eqA28
mutual
def Yq.j0 : Nat → Bool → Int → Int → Int → Int → Int → Bool → Int → Int → Int → Int → Int → Int → Int → Option (Int)
 | 0, _, _, _, _, _, _, _, _, _, _, _, _, _, _ => none
 | k + 1, x19, x_b, x_a, x_2, x_c, x_9, x_8, x_6, x_7, x_5, x_4, x_0, x_3, x_1 => if x19 = true then (some 43) else (if x_2 < 0 then (Yq.j1 k true x_b x_a x_2 x_c x_9 x_8 x_6 x_7 x_5 x_4 x_0 x_3 x_1) else (Yq.j1 k (decide (x_2 ≥ 12)) x_b x_a x_2 x_c x_9 x_8 x_6 x_7 x_5 x_4 x_0 x_3 x_1))
def Yq.j1 : Nat → Bool → Int → Int → Int → Int → Int → Bool → Int → Int → Int → Int → Int → Int → Int → Option (Int)
 | 0, _, _, _, _, _, _, _, _, _, _, _, _, _, _ => none
 | k + 1, x27, x_b, x_a, x_2, x_c, x_9, x_8, x_6, x_7, x_5, x_4, x_0, x_3, x_1 => if x27 = true then (some 33) else (if x_8 = true then (if (!(x_6 == 0) || (!(x_7 == 0) || (!(x_5 == 0) || (!(x_4 == 0) || (!(x_0 == 0) || (!(x_3 == 0) || (!(x_1 == 0)))))))) = true then (some 2) else (some 0)) else ((Yv.f k x_6 x_7 x_5 x_4 x_0 x_3 x_1).bind fun t_1 => (some t_1)))
end
def Yq.f (k : Nat) (a0_0 : Int) (a0_1 : Int) (a0_2 : Int) (a0_3 : Int) (a0_4 : Int) (a0_5 : Bool) (a0_6 : Int) (a0_7 : Int) (a0_8 : Int) (a0_9 : Int) (a0_10 : Int) (a0_11 : Int) (a0_12 : Int) : Option (Int) := (Y19.f a0_0 a0_1).bind fun t_2 => (if t_2 = true then ((Y19.f a0_3 a0_4).bind fun t_3 => (if t_3 = true then ((YW.f a0_0 a0_1 a0_3 a0_4).bind fun t_0 => (Yq.j0 k t_0 a0_0 a0_1 a0_2 a0_3 a0_4 a0_5 a0_6 a0_7 a0_8 a0_9 a0_10 a0_11 a0_12)) else (Yq.j0 k true a0_0 a0_1 a0_2 a0_3 a0_4 a0_5 a0_6 a0_7 a0_8 a0_9 a0_10 a0_11 a0_12))) else (Yq.j0 k true a0_0 a0_1 a0_2 a0_3 a0_4 a0_5 a0_6 a0_7 a0_8 a0_9 a0_10 a0_11 a0_12))
theorem Yq.mono_l : ∀ k, (∀ y0 y1 y2 y3 y4 y5 y6 y7 y8 y9 y10 y11 y12 y13, LeO (Yq.j0 k y0 y1 y2 y3 y4 y5 y6 y7 y8 y9 y10 y11 y12 y13) (Yq.j0 (k + 1) y0 y1 y2 y3 y4 y5 y6 y7 y8 y9 y10 y11 y12 y13)) ∧ (∀ y0 y1 y2 y3 y4 y5 y6 y7 y8 y9 y10 y11 y12 y13, LeO (Yq.j1 k y0 y1 y2 y3 y4 y5 y6 y7 y8 y9 y10 y11 y12 y13) (Yq.j1 (k + 1) y0 y1 y2 y3 y4 y5 y6 y7 y8 y9 y10 y11 y12 y13))
 | 0 => ⟨fun _ _ _ _ _ _ _ _ _ _ _ _ _ _ r h => by simp [Yq.j0] at h, fun _ _ _ _ _ _ _ _ _ _ _ _ _ _ r h => by simp [Yq.j1] at h⟩
 | k + 1 => by
  obtain ⟨ih0, ih1⟩ := Yq.mono_l k
  refine ⟨?_, ?_⟩
  ·intro y0 y1 y2 y3 y4 y5 y6 y7 y8 y9 y10 y11 y12 y13
   unfold Yq.j0
   repeat' first
   | (with_reducible exact ih0 _ _ _ _ _ _ _ _ _ _ _ _ _ _)
   | (with_reducible exact ih1 _ _ _ _ _ _ _ _ _ _ _ _ _ _)
   | (with_reducible exact Yv.mono _ _ _ _ _ _ _ _)
   | (with_reducible exact LeO.refl _)
   | (with_reducible exact LeO.none _)
   | (with_reducible refine LeO.ite ?_ ?_)
   | (with_reducible refine LeO.bind ?_ (fun _ => ?_))
  ·intro y0 y1 y2 y3 y4 y5 y6 y7 y8 y9 y10 y11 y12 y13
   unfold Yq.j1
   repeat' first
   | (with_reducible exact ih0 _ _ _ _ _ _ _ _ _ _ _ _ _ _)
   | (with_reducible exact ih1 _ _ _ _ _ _ _ _ _ _ _ _ _ _)
   | (with_reducible exact Yv.mono _ _ _ _ _ _ _ _)
   | (with_reducible exact LeO.refl _)
   | (with_reducible exact LeO.none _)
   | (with_reducible refine LeO.ite ?_ ?_)
   | (with_reducible refine LeO.bind ?_ (fun _ => ?_))
theorem Yq.mono : ∀ a0 a1 a2 a3 a4 a5 a6 a7 a8 a9 a10 a11 a12 k, LeO (Yq.f k a0 a1 a2 a3 a4 a5 a6 a7 a8 a9 a10 a11 a12) (Yq.f (k + 1) a0 a1 a2 a3 a4 a5 a6 a7 a8 a9 a10 a11 a12) := by
 intro a0 a1 a2 a3 a4 a5 a6 a7 a8 a9 a10 a11 a12 k
 obtain ⟨ih0, ih1⟩ := Yq.mono_l k
 unfold Yq.f
 repeat' first
   | (with_reducible exact ih0 _ _ _ _ _ _ _ _ _ _ _ _ _ _)
   | (with_reducible exact ih1 _ _ _ _ _ _ _ _ _ _ _ _ _ _)
   | (with_reducible exact Yv.mono _ _ _ _ _ _ _ _)
   | (with_reducible exact LeO.refl _)
   | (with_reducible exact LeO.none _)
   | (with_reducible refine LeO.ite ?_ ?_)
   | (with_reducible refine LeO.bind ?_ (fun _ => ?_))
set_option maxHeartbeats 8000000 in
set_option maxRecDepth 100000 in
theorem Yq.calls (k : Nat) (a0_0 : Int) (a0_1 : Int) (a0_2 : Int) (a0_3 : Int) (a0_4 : Int) (a0_5 : Bool) (a0_6 : Int) (a0_7 : Int) (a0_8 : Int) (a0_9 : Int) (a0_10 : Int) (a0_11 : Int) (a0_12 : Int) (r : Int) (w : World) (h : Yq.f k a0_0 a0_1 a0_2 a0_3 a0_4 a0_5 a0_6 a0_7 a0_8 a0_9 a0_10 a0_11 a0_12 = some r) :
  Calls Try.prog 54 #[.agg #[.int .i64 a0_0, .int .i64 a0_1, .int .i64 a0_2, .int .i64 a0_3, .int .i64 a0_4, .bool a0_5, .int .i64 a0_6, .int .i64 a0_7, .int .i64 a0_8, .int .i64 a0_9, .int .i64 a0_10, .int .i64 a0_11, .int .i64 a0_12]] w fun e w' => e = .returned (.int .i64 r) ∧ Below w.heap.size w w' := by
 have hu30 := Try.underlying30
 have hu26 := Try.underlying26
 have hu28 := Try.underlying28
 have HB := Y0.mk (Below.refl w.heap.size w)
 have H : ((Y19.f a0_0 a0_1).bind fun t_2 => (if t_2 = true then ((Y19.f a0_3 a0_4).bind fun t_3 => (if t_3 = true then ((YW.f a0_0 a0_1 a0_3 a0_4).bind fun t_0 => (Yq.j0 k t_0 a0_0 a0_1 a0_2 a0_3 a0_4 a0_5 a0_6 a0_7 a0_8 a0_9 a0_10 a0_11 a0_12)) else (Yq.j0 k true a0_0 a0_1 a0_2 a0_3 a0_4 a0_5 a0_6 a0_7 a0_8 a0_9 a0_10 a0_11 a0_12))) else (Yq.j0 k true a0_0 a0_1 a0_2 a0_3 a0_4 a0_5 a0_6 a0_7 a0_8 a0_9 a0_10 a0_11 a0_12))) = some r := h
 clear h
 have HC2 := Y0.mk H
 clear H
 go_enter Try.func54, Try.ntmps54
 go_upto_region 1 with (first | ((with_reducible refine Ye (N := 1) rfl ?_); refine Yh ?hg (N := 1) ?hd (cs := #[.int .i64 a0_0, .int .i64 a0_1, .int .i64 a0_2, .int .i64 a0_3, .int .i64 a0_4, .bool a0_5, .int .i64 a0_6, .int .i64 a0_7, .int .i64 a0_8, .int .i64 a0_9, .int .i64 a0_10, .int .i64 a0_11, .int .i64 a0_12]) (t := 30) ?hr ?_; (case hd => rfl); (case hg => rfl); (case hr => first | (go_simp; done) | (go_simp; rfl)); intro g_0 hg w3 hbox hb; have n0_ := Y0.mk (Y3 (hU HB.out) hb); have n1_ := Y0.mk (hbox); have n2_ := gE hg HB; have n3_ := gE hg HB; clear HB; have HB := n0_; have B_0 := n1_; have W_0 := n2_; have G_0 := n3_; clear n0_ n1_ n2_ n3_; clear hb hbox hg))
 (try simp only [Act.put, List.setIfInBounds_toArray, List.set_cons_zero, List.set_cons_succ])
 go_cut [19] (fun v19 wc => ∃ (kq : Nat) (x19_1 : Bool), v19 = .bool x19_1 ∧ Y0 (Yq.j0 kq x19_1 a0_0 a0_1 a0_2 a0_3 a0_4 a0_5 a0_6 a0_7 a0_8 a0_9 a0_10 a0_11 a0_12 = some r) ∧ Y0 (kq ≤ k) ∧ Y0 (wc.heap[g_0]? = some (.cells #[.int .i64 a0_0, .int .i64 a0_1, .int .i64 a0_2, .int .i64 a0_3, .int .i64 a0_4, .bool a0_5, .int .i64 a0_6, .int .i64 a0_7, .int .i64 a0_8, .int .i64 a0_9, .int .i64 a0_10, .int .i64 a0_11, .int .i64 a0_12] 30 (0, 0))) ∧ Y0 (Below w.heap.size w wc))
 case first =>
  have H := HC2.out
  clear HC2
  obtain ⟨t_2, A40, H⟩ := bS H
  try dsimp only at H
  have A4 := Y0.mk A40
  clear A40
  by_cases c5 : t_2 = true
  ·subst c5
   rw [if_pos rfl] at H
   obtain ⟨t_3, A60, H⟩ := bS H
   try dsimp only at H
   have A6 := Y0.mk A60
   clear A60
   by_cases c7 : t_3 = true
   ·subst c7
    rw [if_pos rfl] at H
    obtain ⟨t_0, A80, H⟩ := bS H
    replace H : (Yq.j0 k t_0 a0_0 a0_1 a0_2 a0_3 a0_4 a0_5 a0_6 a0_7 a0_8 a0_9 a0_10 a0_11 a0_12) = some r := H
    have A8 := Y0.mk A80
    clear A80
    have H' := Y0.mk H
    clear H
    have z_3 := Y2 B_0.out
    have f_2 := Y7 B_0.out
    go_wp2_with (first | ((with_reducible refine Yc (f := 93) rfl ?_); refine goesA (some 5) Try.func93 #[.agg #[.int .i64 a0_0, .int .i64 a0_1]] ?_; (with_reducible refine (Y19.calls a0_0 a0_1 true _ A4.out).mono ?_); rintro e w10 ⟨rfl, hb⟩; refine ⟨_, rfl, ?_⟩; replace B_0 := Y0.mk (Y1 (bU B_0.out) hb); replace HB := Y0.mk (Y3 (hU HB.out) hb); (try clear hb); (try clear hb2); (try clear hk); (try clear hi); have z_1 := Y2 B_0.out; have f_0 := Y7 B_0.out) | (go_at_call 93; (with_reducible refine (Y19.calls a0_3 a0_4 true _ A6.out).mono ?_); rintro e w12 ⟨rfl, hb⟩; replace B_0 := Y0.mk (Y1 (bU B_0.out) hb); replace HB := Y0.mk (Y3 (hU HB.out) hb); (try clear hb); (try clear hb2); (try clear hk); (try clear hi); have z_4 := Y2 B_0.out; have f_4 := Y7 B_0.out) | (go_at_call 75; (with_reducible refine (YW.calls a0_0 a0_1 a0_3 a0_4 t_0 _ A8.out).mono ?_); rintro e w14 ⟨rfl, hb⟩; replace B_0 := Y0.mk (Y1 (bU B_0.out) hb); replace HB := Y0.mk (Y3 (hU HB.out) hb); (try clear hb); (try clear hb2); (try clear hk); (try clear hi)))
    go_meet
    case rel => exact ⟨_, (t_0), reS, H', ⟨by first | omega | exact Nat.le_refl _⟩, ⟨kB B_0⟩, ⟨hU HB.out⟩⟩
   ·replace c7 := Bool.eq_false_iff.mpr c7
    subst c7
    have H1 : (Yq.j0 k true a0_0 a0_1 a0_2 a0_3 a0_4 a0_5 a0_6 a0_7 a0_8 a0_9 a0_10 a0_11 a0_12) = some r := by rw [if_neg (show ¬ (false = true) by decide)] at H; exact H
    clear H
    have H := H1
    clear H1
    have H' := Y0.mk H
    clear H
    have z_0 := Y2 B_0.out
    have f_1 := Y7 B_0.out
    go_wp2_with (first | ((with_reducible refine Yc (f := 93) rfl ?_); refine goesA (some 5) Try.func93 #[.agg #[.int .i64 a0_0, .int .i64 a0_1]] ?_; (with_reducible refine (Y19.calls a0_0 a0_1 true _ A4.out).mono ?_); rintro e w16 ⟨rfl, hb⟩; refine ⟨_, rfl, ?_⟩; replace B_0 := Y0.mk (Y1 (bU B_0.out) hb); replace HB := Y0.mk (Y3 (hU HB.out) hb); (try clear hb); (try clear hb2); (try clear hk); (try clear hi); have z_5 := Y2 B_0.out; have f_5 := Y7 B_0.out) | (go_at_call 93; (with_reducible refine (Y19.calls a0_3 a0_4 false _ A6.out).mono ?_); rintro e w18 ⟨rfl, hb⟩; replace B_0 := Y0.mk (Y1 (bU B_0.out) hb); replace HB := Y0.mk (Y3 (hU HB.out) hb); (try clear hb); (try clear hb2); (try clear hk); (try clear hi)))
    go_meet
    case rel => exact ⟨_, (true), reS, H', ⟨by first | omega | exact Nat.le_refl _⟩, ⟨kB B_0⟩, ⟨hU HB.out⟩⟩
  ·replace c5 := Bool.eq_false_iff.mpr c5
   subst c5
   have H1 : (Yq.j0 k true a0_0 a0_1 a0_2 a0_3 a0_4 a0_5 a0_6 a0_7 a0_8 a0_9 a0_10 a0_11 a0_12) = some r := by rw [if_neg (show ¬ (false = true) by decide)] at H; exact H
   clear H
   have H := H1
   clear H1
   have H' := Y0.mk H
   clear H
   have z_2 := Y2 B_0.out
   have f_3 := Y7 B_0.out
   go_wp2_with (first | ((with_reducible refine Yc (f := 93) rfl ?_); refine goesA (some 5) Try.func93 #[.agg #[.int .i64 a0_0, .int .i64 a0_1]] ?_; (with_reducible refine (Y19.calls a0_0 a0_1 false _ A4.out).mono ?_); rintro e w20 ⟨rfl, hb⟩; refine ⟨_, rfl, ?_⟩; replace B_0 := Y0.mk (Y1 (bU B_0.out) hb); replace HB := Y0.mk (Y3 (hU HB.out) hb); (try clear hb); (try clear hb2); (try clear hk); (try clear hi)))
   go_meet
   case rel => exact ⟨_, (true), reS, H', ⟨by first | omega | exact Nat.le_refl _⟩, ⟨kB B_0⟩, ⟨hU HB.out⟩⟩
 case rest =>
  clear HC2
  try clear p2
  try clear c5
  try clear c7
  try clear c9
  try clear z_1
  try clear z_1f
  try clear z_23
  try clear z_27
  try clear z_1j
  try clear z_1d
  try clear z_s
  try clear z_v
  try clear z_1b
  try clear z_p
  try clear z_12
  try clear z_1v
  try clear z_18
  try clear z_4
  try clear z_c
  try clear z_26
  try clear z_8
  try clear z_21
  try clear z_j
  try clear z_19
  try clear z_1s
  try clear z_1x
  try clear z_6
  try clear z_1r
  try clear z_13
  try clear z_1h
  try clear z_0
  try clear z_l
  try clear z_f
  try clear z_k
  try clear z_a
  try clear z_1a
  try clear z_q
  try clear z_1y
  try clear z_z
  try clear z_1c
  try clear z_1m
  try clear z_1o
  try clear z_i
  try clear z_5
  try clear z_1n
  try clear z_1z
  try clear z_1l
  try clear z_g
  try clear z_d
  try clear z_7
  try clear z_o
  try clear z_9
  try clear z_22
  try clear z_n
  try clear z_x
  try clear z_25
  try clear z_2
  try clear z_r
  try clear z_t
  try clear z_17
  try clear z_11
  try clear z_14
  try clear z_m
  try clear z_15
  try clear z_1g
  try clear z_1w
  try clear z_1i
  try clear z_1q
  try clear z_1p
  try clear z_3
  try clear z_20
  try clear z_y
  try clear z_1u
  try clear z_u
  try clear z_10
  try clear z_1t
  try clear z_1k
  try clear z_24
  try clear z_e
  try clear z_16
  try clear z_h
  try clear z_b
  try clear f_0
  try clear f_i
  try clear f_1f
  try clear f_16
  try clear f_v
  try clear f_12
  try clear f_u
  try clear f_d
  try clear f_k
  try clear f_13
  try clear f_18
  try clear f_s
  try clear f_a
  try clear f_4
  try clear f_23
  try clear f_w
  try clear f_1d
  try clear f_1i
  try clear f_m
  try clear f_1p
  try clear f_z
  try clear f_8
  try clear f_o
  try clear f_6
  try clear f_1h
  try clear f_1o
  try clear f_1
  try clear f_1c
  try clear f_11
  try clear f_h
  try clear f_1z
  try clear f_r
  try clear f_1l
  try clear f_25
  try clear f_x
  try clear f_f
  try clear f_10
  try clear f_1q
  try clear f_1x
  try clear f_5
  try clear f_p
  try clear f_1s
  try clear f_1b
  try clear f_19
  try clear f_1r
  try clear f_20
  try clear f_e
  try clear f_y
  try clear f_22
  try clear f_1j
  try clear f_1w
  try clear f_1n
  try clear f_3
  try clear f_1v
  try clear f_b
  try clear f_1k
  try clear f_1t
  try clear f_1e
  try clear f_17
  try clear f_c
  try clear f_t
  try clear f_27
  try clear f_l
  try clear f_n
  try clear f_1a
  try clear f_2
  try clear f_q
  try clear f_1u
  try clear f_26
  try clear f_9
  try clear f_15
  try clear f_24
  try clear f_j
  try clear f_1m
  try clear f_g
  try clear f_1g
  try clear f_1y
  try clear f_21
  obtain ⟨kq, x19_1, rfl, HA, HJ1, B_0, HB⟩ := hcut
  cases kq with
  | zero => exact absurd HA.out (by simp [Yq.j0])
  | succ kj1 =>
   have H := HA.out
   clear HA
   simp only [Yq.j0] at H
   by_cases c21 : x19_1 = true
   ·subst c21
    have H1 : (some 43) = some r := by rw [if_pos rfl] at H; exact H
    clear H
    have H := H1
    clear H1
    obtain rfl := Option.some.inj H
    go_wp2
    go_ret
    exact ⟨reT, hU HB.out⟩
   ·replace c21 := Bool.eq_false_iff.mpr c21
    subst c21
    rw [if_neg (show ¬ (false = true) by decide)] at H
    have HC22 := Y0.mk H
    clear H
    go_upto_region 3 with (fail)
    go_cut [27] (fun v27 wc => ∃ (kq : Nat) (x27_21 : Bool), v27 = .bool x27_21 ∧ Y0 (Yq.j1 kq x27_21 a0_0 a0_1 a0_2 a0_3 a0_4 a0_5 a0_6 a0_7 a0_8 a0_9 a0_10 a0_11 a0_12 = some r) ∧ Y0 (kq ≤ kj1) ∧ Y0 (wc.heap[g_0]? = some (.cells #[.int .i64 a0_0, .int .i64 a0_1, .int .i64 a0_2, .int .i64 a0_3, .int .i64 a0_4, .bool a0_5, .int .i64 a0_6, .int .i64 a0_7, .int .i64 a0_8, .int .i64 a0_9, .int .i64 a0_10, .int .i64 a0_11, .int .i64 a0_12] 30 (0, 0))) ∧ Y0 (Below w.heap.size w wc))
    case first =>
     have H := HC22.out
     clear HC22
     by_cases c23 : a0_2 < 0
     ·rw [if_pos c23] at H
      have c23b0 := decide_eq_true c23
      clear c23
      (first | rw [c23b0] | (simp only [i64_w, i32_w]; rw [c23b0]) | skip)
      have H' := Y0.mk H
      clear H
      have z_w := Y2 B_0.out
      have f_14 := Y7 B_0.out
      go_wp2
      go_meet
      case rel => exact ⟨_, (true), reS, H', ⟨by have := HJ1.out; first | omega | exact Nat.le_refl _⟩, ⟨kB B_0⟩, ⟨hU HB.out⟩⟩
     ·rw [if_neg c23] at H
      have c23b0 := decide_eq_false c23
      clear c23
      (first | rw [c23b0] | (simp only [i64_w, i32_w]; rw [c23b0]) | skip)
      have H' := Y0.mk H
      clear H
      have z_1e := Y2 B_0.out
      have f_7 := Y7 B_0.out
      go_wp2
      go_meet
      case rel => exact ⟨_, (decide (a0_2 ≥ 12)), reS, H', ⟨by have := HJ1.out; first | omega | exact Nat.le_refl _⟩, ⟨kB B_0⟩, ⟨hU HB.out⟩⟩
    case rest =>
     clear HC22
     try clear c2
     try clear p2
     try clear c5
     try clear c7
     try clear c9
     try clear c21
     try clear c23
     try clear c23b0
     try clear z_1
     try clear z_1f
     try clear z_23
     try clear z_27
     try clear z_1j
     try clear z_1d
     try clear z_s
     try clear z_v
     try clear z_1b
     try clear z_p
     try clear z_12
     try clear z_1v
     try clear z_18
     try clear z_4
     try clear z_c
     try clear z_26
     try clear z_8
     try clear z_21
     try clear z_j
     try clear z_19
     try clear z_1s
     try clear z_1x
     try clear z_6
     try clear z_1r
     try clear z_13
     try clear z_1h
     try clear z_0
     try clear z_l
     try clear z_f
     try clear z_k
     try clear z_a
     try clear z_1a
     try clear z_q
     try clear z_1y
     try clear z_z
     try clear z_1c
     try clear z_1m
     try clear z_1o
     try clear z_i
     try clear z_5
     try clear z_1n
     try clear z_1z
     try clear z_1l
     try clear z_g
     try clear z_d
     try clear z_7
     try clear z_o
     try clear z_9
     try clear z_22
     try clear z_n
     try clear z_x
     try clear z_25
     try clear z_2
     try clear z_r
     try clear z_t
     try clear z_17
     try clear z_11
     try clear z_14
     try clear z_m
     try clear z_15
     try clear z_1g
     try clear z_1w
     try clear z_1i
     try clear z_1q
     try clear z_1p
     try clear z_w
     try clear z_2j
     try clear z_2p
     try clear z_2b
     try clear z_2r
     try clear z_2s
     try clear z_29
     try clear z_2o
     try clear z_2d
     try clear z_2m
     try clear z_2c
     try clear z_2u
     try clear z_2e
     try clear z_1e
     try clear z_2t
     try clear z_2v
     try clear z_2a
     try clear z_2n
     try clear z_2h
     try clear z_2y
     try clear z_2k
     try clear z_2f
     try clear z_2i
     try clear z_2l
     try clear z_28
     try clear z_2w
     try clear z_3
     try clear z_20
     try clear z_y
     try clear z_1u
     try clear z_u
     try clear z_10
     try clear z_1t
     try clear z_1k
     try clear z_24
     try clear z_e
     try clear z_16
     try clear z_h
     try clear z_b
     try clear f_0
     try clear f_i
     try clear f_1f
     try clear f_16
     try clear f_v
     try clear f_12
     try clear f_u
     try clear f_d
     try clear f_k
     try clear f_13
     try clear f_18
     try clear f_s
     try clear f_a
     try clear f_4
     try clear f_23
     try clear f_w
     try clear f_1d
     try clear f_1i
     try clear f_m
     try clear f_1p
     try clear f_z
     try clear f_8
     try clear f_o
     try clear f_6
     try clear f_1h
     try clear f_1o
     try clear f_1
     try clear f_1c
     try clear f_11
     try clear f_h
     try clear f_1z
     try clear f_r
     try clear f_1l
     try clear f_25
     try clear f_x
     try clear f_f
     try clear f_10
     try clear f_1q
     try clear f_1x
     try clear f_5
     try clear f_p
     try clear f_1s
     try clear f_1b
     try clear f_19
     try clear f_1r
     try clear f_20
     try clear f_e
     try clear f_y
     try clear f_22
     try clear f_1j
     try clear f_1w
     try clear f_1n
     try clear f_3
     try clear f_1v
     try clear f_b
     try clear f_1k
     try clear f_1t
     try clear f_1e
     try clear f_17
     try clear f_c
     try clear f_t
     try clear f_27
     try clear f_l
     try clear f_n
     try clear f_1a
     try clear f_14
     try clear f_2n
     try clear f_2e
     try clear f_2h
     try clear f_2a
     try clear f_2x
     try clear f_2d
     try clear f_2j
     try clear f_2s
     try clear f_2m
     try clear f_2c
     try clear f_2t
     try clear f_2i
     try clear f_7
     try clear f_2l
     try clear f_28
     try clear f_2w
     try clear f_2y
     try clear f_2g
     try clear f_2u
     try clear f_29
     try clear f_2q
     try clear f_2o
     try clear f_2p
     try clear f_2b
     try clear f_2k
     try clear f_2
     try clear f_q
     try clear f_1u
     try clear f_26
     try clear f_9
     try clear f_15
     try clear f_24
     try clear f_j
     try clear f_1m
     try clear f_g
     try clear f_1g
     try clear f_1y
     try clear f_21
     try clear p2
     obtain ⟨kq, x27_21, rfl, HA, HJ21, B_0, HB⟩ := hcut
     cases kq with
     | zero => exact absurd HA.out (by simp [Yq.j1])
     | succ kj21 =>
      have H := HA.out
      clear HA
      simp only [Yq.j1] at H
      by_cases c26 : x27_21 = true
      ·subst c26
       have H1 : (some 33) = some r := by rw [if_pos rfl] at H; exact H
       clear H
       have H := H1
       clear H1
       obtain rfl := Option.some.inj H
       go_wp2
       go_ret
       exact ⟨reT, hU HB.out⟩
      ·replace c26 := Bool.eq_false_iff.mpr c26
       subst c26
       rw [if_neg (show ¬ (false = true) by decide)] at H
       by_cases c27 : a0_5 = true
       ·subst c27
        rw [if_pos rfl] at H
        by_cases c28 : (!(a0_6 == 0) || (!(a0_7 == 0) || (!(a0_8 == 0) || (!(a0_9 == 0) || (!(a0_10 == 0) || (!(a0_11 == 0) || (!(a0_12 == 0)))))))) = true
        ·rw [if_pos c28] at H
         have c28b0 : (!(a0_6 == 0) || (!(a0_7 == 0) || (!(a0_8 == 0) || (!(a0_9 == 0) || (!(a0_10 == 0) || (!(a0_11 == 0) || (!(a0_12 == 0)))))))) = true := c28
         clear c28
         obtain rfl := Option.some.inj H
         have z_2q := Y2 B_0.out
         have f_2r := Y7 B_0.out
         go_wp2
         go_ret
         exact ⟨reT, hU HB.out⟩
        ·rw [if_neg c28] at H
         have c28b0 : (!(a0_6 == 0) || (!(a0_7 == 0) || (!(a0_8 == 0) || (!(a0_9 == 0) || (!(a0_10 == 0) || (!(a0_11 == 0) || (!(a0_12 == 0)))))))) = false := by simpa using c28
         clear c28
         obtain rfl := Option.some.inj H
         have z_2x := Y2 B_0.out
         have f_2v := Y7 B_0.out
         go_wp2
         go_ret
         exact ⟨reT, hU HB.out⟩
       ·replace c27 := Bool.eq_false_iff.mpr c27
        subst c27
        have H1 : ((Yv.f kj21 a0_6 a0_7 a0_8 a0_9 a0_10 a0_11 a0_12).bind fun t_1 => (some t_1)) = some r := by rw [if_neg (show ¬ (false = true) by decide)] at H; exact H
        clear H
        have H := H1
        clear H1
        obtain ⟨t_1, A310, H⟩ := bS H
        replace H : (some t_1) = some r := H
        have A31 := Y0.mk A310
        clear A310
        obtain rfl := Option.some.inj H
        have z_2g := Y2 B_0.out
        have f_2f := Y7 B_0.out
        go_wp2_with (first | ((with_reducible refine Yc (f := 77) rfl ?_); refine goesA (some 33) Try.func77 #[.agg #[.int .i64 a0_6, .int .i64 a0_7, .int .i64 a0_8, .int .i64 a0_9, .int .i64 a0_10, .int .i64 a0_11, .int .i64 a0_12]] ?_; (with_reducible refine (Yv.calls kj21 a0_6 a0_7 a0_8 a0_9 a0_10 a0_11 a0_12 t_1 _ A31.out).mono ?_); rintro e w33 ⟨rfl, hb⟩; refine ⟨_, rfl, ?_⟩; replace B_0 := Y0.mk (Y1 (bU B_0.out) hb); replace HB := Y0.mk (Y3 (hU HB.out) hb); (try clear hb); (try clear hb2); (try clear hk); (try clear hi)))
        go_ret
        exact ⟨reT, hU HB.out⟩
end Go.Proofs.Yteopkkoblbmggaa.P
end

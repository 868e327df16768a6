/- Texts of this claim in one: VP55; no condition. -/
import Derived.Test.YteopkkoblbmggaaBAC
import Derived.Test.YteopkkoblbmggaaBAE
import Derived.Test.YteopkkoblbmggaaBAF
import Derived.Test.YteopkkoblbmggaaBAO
import Derived.Test.YteopkkoblbmggaaBAR
import Derived.Test.YteopkkoblbmggaaBAX
import Derived.Test.YteopkkoblbmggaaBAY
import Derived.Test.YteopkkoblbmggaaBAJ
import Derived.Test.YteopkkoblbmggaaBAI
import Derived.Test.YteopkkoblbmggaaBAN
import Derived.Test.YteopkkoblbmggaaBAM
section
namespace Go.Proofs.Yteopkkoblbmggaa.P
open Go.RowKit Go.Proofs.YteopkkoblbmggaaW.PrintWords Go.Proofs.YteopkkoblbmggaaW.PrintLast Go.Proofs.YteopkkoblbmggaaW.PrintMore
attribute [local go_sem] Y10 Y12 Y19 Y1a YM YN Y11 Y13
set_option linter.unusedVariables false
set_option linter.unusedSimpArgs false
attribute [local go_sem high] eqA28
def Yk.f (k : Nat) (a0_0 : Int) (l0_1 : List (S30)) (a1_0 : Int) (a1_1 : Int) (a1_2 : Int) (a1_3 : Int) (a1_4 : Int) (a1_5 : Bool) (a1_6 : Int) (a1_7 : Int) (a1_8 : Int) (a1_9 : Int) (a1_10 : Int) (a1_11 : Int) (a1_12 : Int) : Option (Bool) := (Y14.f a0_0 l0_1).bind fun t_l => (if t_l = true then ((Yb.f k).bind fun t_g => (some t_g)) else ((Ya.f k a0_0 l0_1).bind fun t_4 => ((Yu.f a0_0 l0_1).bind fun t_h => (if t_h = t_4 then (if t_4 = 0 then ((Yb.f k).bind fun t_k => (some t_k)) else ((YD.f a0_0 l0_1 a1_0 a1_1 a1_2 a1_3 a1_4 a1_5 a1_6 a1_7 a1_8 a1_9 a1_10 a1_11 a1_12).bind fun b_7 => ((Yc.f k a0_0 l0_1 a0_0 l0_1).bind fun b_3 => ((YG.f).bind fun b_5 => ((Yc.f k b_5.1 b_5.2 a0_0 l0_1).bind fun b_2 => ((YG.f).bind fun b_6 => ((Yz.f k b_6.1 b_6.2 a0_0 l0_1).bind fun b_4 => ((Y15.f a0_0 l0_1 (-1) 0).bind fun b_1 => ((Yy.f a0_0 l0_1 0 a1_3 a1_4).bind fun b_0 => (if (b_7.2.1.length : Int) = 0 then (if (b_3.2.1.length : Int) = 0 then (if (b_2.2.1.length : Int) = 0 then (if (b_4.1.length : Int) = 0 then (if (b_1.1.length : Int) = 0 then (if (b_1.2.1.length : Int) = 0 then (if (!(b_0.1 == 0) || (!(b_0.2.1 == 0) || (!(b_0.2.2.1 == 0) || (!(b_0.2.2.2.1 == 0) || (!(b_0.2.2.2.2.1 == 0) || (!(b_0.2.2.2.2.2.1 == 0) || (!(b_0.2.2.2.2.2.2.1 == 0)))))))) = true then (none) else (if b_0.2.2.2.2.2.2.2.1 = true then (none) else (if b_7.2.2 = t_4 then (if b_3.2.2 = t_4 then (if b_2.2.2 = t_4 then (if b_4.2 = t_4 then (if b_1.2.2 = t_4 then (if b_0.2.2.2.2.2.2.2.2 = t_4 then ((Yb.f k).bind fun t_j => (some t_j)) else (none)) else (none)) else (none)) else (none)) else (none)) else (none)))) else (none)) else (none)) else (none)) else (none)) else (none)) else (none))))))))))) else (none)))))
theorem Yk.mono : ∀ a0 a1 a2 a3 a4 a5 a6 a7 a8 a9 a10 a11 a12 a13 a14 k, LeO (Yk.f k a0 a1 a2 a3 a4 a5 a6 a7 a8 a9 a10 a11 a12 a13 a14) (Yk.f (k + 1) a0 a1 a2 a3 a4 a5 a6 a7 a8 a9 a10 a11 a12 a13 a14) := by
 intro a0 a1 a2 a3 a4 a5 a6 a7 a8 a9 a10 a11 a12 a13 a14 k
 unfold Yk.f
 repeat' first
   | (with_reducible exact Yb.mono _)
   | (with_reducible exact Ya.mono _ _ _)
   | (with_reducible exact Yc.mono _ _ _ _ _)
   | (with_reducible exact Yz.mono _ _ _ _ _)
   | (with_reducible exact LeO.refl _)
   | (with_reducible exact LeO.none _)
   | (with_reducible refine LeO.ite ?_ ?_)
   | (with_reducible refine LeO.bind ?_ (fun _ => ?_))
def Yk.T10 : Bool × List (List Nat × List Nat) := (true, [([], []), ([], []), ([0, 1, 0], [0, 1]), ([2], [2]), ([3], [3]), ([3], [3]), ([], []), ([6, 4, 2, 0, 1, 2, 3, 4, 6], [4, 6]), ([5, 7, 0, 1, 2, 3, 4, 5, 6, 7], [5])])
def Yk.B10 : List Nat := [0, 0, 3, 7, 15, 15, 0, 95, 255]
theorem Yk.tab10 : rtab .any (opsOf Try.f9 10) = Yk.T10 := by kernel_rfl
theorem Yk.bits10 : Y1p Yk.T10.2 Yk.B10 = true := by kernel_rfl
def Yk.T11 : Bool × List (List Nat × List Nat) := (true, [([], []), ([], []), ([0, 1, 0], [0, 1]), ([2], [2]), ([3], [3]), ([3], [3]), ([4, 2, 0, 1, 2, 3, 4], [4]), ([5, 6, 0, 1, 2, 3, 4, 5, 6], [5])])
def Yk.B11 : List Nat := [0, 0, 3, 7, 15, 15, 31, 127]
theorem Yk.tab11 : rtab .any (opsOf Try.f9 11) = Yk.T11 := by kernel_rfl
theorem Yk.bits11 : Y1p Yk.T11.2 Yk.B11 = true := by kernel_rfl
set_option maxHeartbeats 8000000 in
set_option maxRecDepth 100000 in
theorem Yk.calls (k : Nat) (a0_0 : Int) (A0_1 : Option Addr) (c0_1 : Nat) (l0_1 : List (S30)) (a1_0 : Int) (a1_1 : Int) (a1_2 : Int) (a1_3 : Int) (a1_4 : Int) (a1_5 : Bool) (a1_6 : Int) (a1_7 : Int) (a1_8 : Int) (a1_9 : Int) (a1_10 : Int) (a1_11 : Int) (a1_12 : Int) (r : Bool) (w : World) (hr0_1 : Kd.C k30 w A0_1 l0_1.length l0_1) (hc0_1 : l0_1.length ≤ c0_1) (h : Yk.f k a0_0 l0_1 a1_0 a1_1 a1_2 a1_3 a1_4 a1_5 a1_6 a1_7 a1_8 a1_9 a1_10 a1_11 a1_12 = some r) :
  Calls Try.prog 9 #[.agg #[.int .i64 a0_0, .slice A0_1 l0_1.length c0_1], .agg #[.int .i64 a1_0, .int .i64 a1_1, .int .i64 a1_2, .int .i64 a1_3, .int .i64 a1_4, .bool a1_5, .int .i64 a1_6, .int .i64 a1_7, .int .i64 a1_8, .int .i64 a1_9, .int .i64 a1_10, .int .i64 a1_11, .int .i64 a1_12]] w fun e w' => e = .returned (.bool r) ∧ Below w.heap.size w w' := by
 have hu24 := Try.underlying24
 have hu30 := Try.underlying30
 have hu26 := Try.underlying26
 have hu28 := Try.underlying28
 have HR0_1 := Y0.mk hr0_1
 have HC0_1 := Y0.mk hc0_1
 clear hr0_1 hc0_1
 have HB := Y0.mk (Below.refl w.heap.size w)
 have H : ((Y14.f a0_0 l0_1).bind fun t_l => (if t_l = true then ((Yb.f k).bind fun t_g => (some t_g)) else ((Ya.f k a0_0 l0_1).bind fun t_4 => ((Yu.f a0_0 l0_1).bind fun t_h => (if t_h = t_4 then (if t_4 = 0 then ((Yb.f k).bind fun t_k => (some t_k)) else ((YD.f a0_0 l0_1 a1_0 a1_1 a1_2 a1_3 a1_4 a1_5 a1_6 a1_7 a1_8 a1_9 a1_10 a1_11 a1_12).bind fun b_7 => ((Yc.f k a0_0 l0_1 a0_0 l0_1).bind fun b_3 => ((YG.f).bind fun b_5 => ((Yc.f k b_5.1 b_5.2 a0_0 l0_1).bind fun b_2 => ((YG.f).bind fun b_6 => ((Yz.f k b_6.1 b_6.2 a0_0 l0_1).bind fun b_4 => ((Y15.f a0_0 l0_1 (-1) 0).bind fun b_1 => ((Yy.f a0_0 l0_1 0 a1_3 a1_4).bind fun b_0 => (if (b_7.2.1.length : Int) = 0 then (if (b_3.2.1.length : Int) = 0 then (if (b_2.2.1.length : Int) = 0 then (if (b_4.1.length : Int) = 0 then (if (b_1.1.length : Int) = 0 then (if (b_1.2.1.length : Int) = 0 then (if (!(b_0.1 == 0) || (!(b_0.2.1 == 0) || (!(b_0.2.2.1 == 0) || (!(b_0.2.2.2.1 == 0) || (!(b_0.2.2.2.2.1 == 0) || (!(b_0.2.2.2.2.2.1 == 0) || (!(b_0.2.2.2.2.2.2.1 == 0)))))))) = true then (none) else (if b_0.2.2.2.2.2.2.2.1 = true then (none) else (if b_7.2.2 = t_4 then (if b_3.2.2 = t_4 then (if b_2.2.2 = t_4 then (if b_4.2 = t_4 then (if b_1.2.2 = t_4 then (if b_0.2.2.2.2.2.2.2.2 = t_4 then ((Yb.f k).bind fun t_j => (some t_j)) else (none)) else (none)) else (none)) else (none)) else (none)) else (none)))) else (none)) else (none)) else (none)) else (none)) else (none)) else (none))))))))))) else (none)))))) = some r := h
 clear h
 obtain ⟨t_l, A30, H⟩ := bS H
 try dsimp only at H
 have A3 := Y0.mk A30
 clear A30
 by_cases c4 : t_l = true
 ·subst c4
  have H1 : ((Yb.f k).bind fun t_g => (some t_g)) = some r := by rw [if_pos rfl] at H; exact H
  clear H
  have H := H1
  clear H1
  obtain ⟨t_g, A50, H⟩ := bS H
  replace H : (some t_g) = some r := H
  have A5 := Y0.mk A50
  clear A50
  obtain rfl := Option.some.inj H
  go_enter Try.func9, Try.ntmps9
  go_wp2_with (first | ((with_reducible refine Yf (N := 2) rfl ?_); (try (refine YZ (by rfl) ?_; dsimp only)); refine Yg ?hg (N := 2) ?hd (cs := #[.int .i64 a0_0, .slice A0_1 l0_1.length c0_1]) (t := 24) ?hr ?_; (case hd => rfl); (case hg => rfl); (case hr => first | (go_simp; done) | (go_simp; rfl)); intro g_4 hg w6 hbox hb; have n0_ := Y0.mk (Y7 (hU HB.out) hb); have n1_ := Y0.mk (hbox); have n2_ := gE hg HB; have n3_ := gE hg HB; clear HB; have HB := n0_; have B_0 := n1_; have W_1 := n2_; have G_1 := n3_; clear n0_ n1_ n2_ n3_; clear hb hbox hg) | ((with_reducible refine Yf (N := 3) rfl ?_); (try (refine YZ (by rfl) ?_; dsimp only)); refine Yg ?hg (N := 3) ?hd (cs := #[.int .i64 a1_0, .int .i64 a1_1, .int .i64 a1_2, .int .i64 a1_3, .int .i64 a1_4, .bool a1_5, .int .i64 a1_6, .int .i64 a1_7, .int .i64 a1_8, .int .i64 a1_9, .int .i64 a1_10, .int .i64 a1_11, .int .i64 a1_12]) (t := 30) ?hr ?_; (case hd => rfl); (case hg => rfl); (case hr => first | (go_simp; done) | (go_simp; rfl)); intro g_3 hg w7 hbox hb; have n0_ := Y0.mk (Y3 (bU B_0.out) hb); have n1_ := Y0.mk (Y7 (hU HB.out) hb); have n2_ := Y0.mk (hbox); have n3_ := gE hg HB; have n4_ := gE hg HB; have n5_ := gL hg B_0; have n6_ := gG hg B_0; clear B_0; clear HB; have B_0 := n0_; have HB := n1_; have B_1 := n2_; have W_2 := n3_; have G_2 := n4_; have N_a := n5_; have N_8 := n6_; clear n0_ n1_ n2_ n3_ n4_ n5_ n6_; clear hb hbox hg; have hnb8 := N_a.out; have hnc8 := N_8.out; have z_a := Y2 B_0.out; have f_4 := Y5 B_0.out) | ((with_reducible refine Yd (f := 17) rfl ?_); refine goesA (some 21) Try.func17 #[.agg #[.int .i64 a0_0, .slice A0_1 l0_1.length c0_1]] ?_; (with_reducible refine (Y14.calls a0_0 _ _ l0_1 true _ ?side1 ?side2 A3.out).mono ?_); (case side1 => repeat (first | exact (Kd.C_below HR0_1.out HB.out) | (with_reducible refine Kd.C_alloc ?_ _) | (with_reducible refine Kd.C_drewN ?_ _) | (with_reducible refine Kd.C_drew ?_))); (case side2 => exact HC0_1.out); rintro e w10 ⟨rfl, hb⟩; refine ⟨_, rfl, ?_⟩; replace B_0 := Y0.mk (Y3 (bU B_0.out) hb); replace B_1 := Y0.mk (Y3 (bU B_1.out) hb); replace HB := Y0.mk (Y7 (hU HB.out) hb); (try clear hb); (try clear hb2); (try clear hk); (try clear hi)) | ((with_reducible refine Yd (f := 18) rfl ?_); refine goesA (some 22) Try.func18 #[] ?_; (with_reducible refine (Yb.calls k  t_g _ A5.out).mono ?_); rintro e w11 ⟨rfl, hb⟩; refine ⟨_, rfl, ?_⟩; replace B_0 := Y0.mk (Y3 (bU B_0.out) hb); replace B_1 := Y0.mk (Y3 (bU B_1.out) hb); replace HB := Y0.mk (Y7 (hU HB.out) hb); (try clear hb); (try clear hb2); (try clear hk); (try clear hi)))
  go_ret
  exact ⟨reT, hU HB.out⟩
 ·replace c4 := Bool.eq_false_iff.mpr c4
  subst c4
  rw [if_neg (show ¬ (false = true) by decide)] at H
  obtain ⟨t_4, A120, H⟩ := bS H
  try dsimp only at H
  have A12 := Y0.mk A120
  clear A120
  obtain ⟨t_h, A130, H⟩ := bS H
  try dsimp only at H
  have A13 := Y0.mk A130
  clear A130
  by_cases c14 : t_h = t_4
  rotate_left
  ·rw [if_neg c14] at H
   exact absurd H (by simp)
  rw [if_pos c14] at H
  have c14b0 := bqT c14
  have c14b1 := bnF c14
  clear c14
  by_cases c15 : t_4 = 0
  ·rw [if_pos c15] at H
   have c15b0 := bqT c15
   have c15b1 := bnF c15
   clear c15
   obtain ⟨t_k, A160, H⟩ := bS H
   replace H : (some t_k) = some r := H
   have A16 := Y0.mk A160
   clear A160
   obtain rfl := Option.some.inj H
   go_enter Try.func9, Try.ntmps9
   go_wp2_with (first | ((with_reducible refine Yf (N := 2) rfl ?_); (try (refine YZ (by rfl) ?_; dsimp only)); refine Yg ?hg (N := 2) ?hd (cs := #[.int .i64 a0_0, .slice A0_1 l0_1.length c0_1]) (t := 24) ?hr ?_; (case hd => rfl); (case hg => rfl); (case hr => first | (go_simp; done) | (go_simp; rfl)); intro g_4 hg w17 hbox hb; have n0_ := Y0.mk (Y7 (hU HB.out) hb); have n1_ := Y0.mk (hbox); have n2_ := gE hg HB; have n3_ := gE hg HB; clear HB; have HB := n0_; have B_0 := n1_; have W_1 := n2_; have G_1 := n3_; clear n0_ n1_ n2_ n3_; clear hb hbox hg) | ((with_reducible refine Yf (N := 3) rfl ?_); (try (refine YZ (by rfl) ?_; dsimp only)); refine Yg ?hg (N := 3) ?hd (cs := #[.int .i64 a1_0, .int .i64 a1_1, .int .i64 a1_2, .int .i64 a1_3, .int .i64 a1_4, .bool a1_5, .int .i64 a1_6, .int .i64 a1_7, .int .i64 a1_8, .int .i64 a1_9, .int .i64 a1_10, .int .i64 a1_11, .int .i64 a1_12]) (t := 30) ?hr ?_; (case hd => rfl); (case hg => rfl); (case hr => first | (go_simp; done) | (go_simp; rfl)); intro g_3 hg w18 hbox hb; have n0_ := Y0.mk (Y3 (bU B_0.out) hb); have n1_ := Y0.mk (Y7 (hU HB.out) hb); have n2_ := Y0.mk (hbox); have n3_ := gE hg HB; have n4_ := gE hg HB; have n5_ := gL hg B_0; have n6_ := gG hg B_0; clear B_0; clear HB; have B_0 := n0_; have HB := n1_; have B_1 := n2_; have W_2 := n3_; have G_2 := n4_; have N_a := n5_; have N_8 := n6_; clear n0_ n1_ n2_ n3_ n4_ n5_ n6_; clear hb hbox hg; have hnb19 := N_a.out; have hnc19 := N_8.out; have z_6 := Y2 B_0.out; have f_h := Y5 B_0.out) | ((with_reducible refine Yd (f := 17) rfl ?_); refine goesA (some 21) Try.func17 #[.agg #[.int .i64 a0_0, .slice A0_1 l0_1.length c0_1]] ?_; (with_reducible refine (Y14.calls a0_0 _ _ l0_1 false _ ?side1 ?side2 A3.out).mono ?_); (case side1 => repeat (first | exact (Kd.C_below HR0_1.out HB.out) | (with_reducible refine Kd.C_alloc ?_ _) | (with_reducible refine Kd.C_drewN ?_ _) | (with_reducible refine Kd.C_drew ?_))); (case side2 => exact HC0_1.out); rintro e w21 ⟨rfl, hb⟩; refine ⟨_, rfl, ?_⟩; replace B_0 := Y0.mk (Y3 (bU B_0.out) hb); replace B_1 := Y0.mk (Y3 (bU B_1.out) hb); replace HB := Y0.mk (Y7 (hU HB.out) hb); (try clear hb); (try clear hb2); (try clear hk); (try clear hi); have z_3 := Y2 B_0.out; have f_9 := Y5 B_0.out) | ((with_reducible refine Yd (f := 34) rfl ?_); refine goesA (some 24) Try.func34 #[.agg #[.int .i64 a0_0, .slice A0_1 l0_1.length c0_1]] ?_; (with_reducible refine (Ya.calls k a0_0 _ _ l0_1 t_4 _ ?side1 ?side2 A12.out).mono ?_); (case side1 => repeat (first | exact (Kd.C_below HR0_1.out HB.out) | (with_reducible refine Kd.C_alloc ?_ _) | (with_reducible refine Kd.C_drewN ?_ _) | (with_reducible refine Kd.C_drew ?_))); (case side2 => exact HC0_1.out); rintro e w23 ⟨rfl, hb⟩; refine ⟨_, rfl, ?_⟩; replace B_0 := Y0.mk (Y3 (bU B_0.out) hb); replace B_1 := Y0.mk (Y3 (bU B_1.out) hb); replace HB := Y0.mk (Y7 (hU HB.out) hb); (try clear hb); (try clear hb2); (try clear hk); (try clear hi); have z_9 := Y2 B_0.out; have f_5 := Y5 B_0.out) | ((with_reducible refine Yd (f := 29) rfl ?_); refine goesA (some 26) Try.func29 #[.agg #[.int .i64 a0_0, .slice A0_1 l0_1.length c0_1]] ?_; (with_reducible refine (Yu.calls a0_0 _ _ l0_1 t_h _ ?side1 ?side2 A13.out).mono ?_); (case side1 => repeat (first | exact (Kd.C_below HR0_1.out HB.out) | (with_reducible refine Kd.C_alloc ?_ _) | (with_reducible refine Kd.C_drewN ?_ _) | (with_reducible refine Kd.C_drew ?_))); (case side2 => exact HC0_1.out); rintro e w25 ⟨rfl, hb⟩; refine ⟨_, rfl, ?_⟩; replace B_0 := Y0.mk (Y3 (bU B_0.out) hb); replace B_1 := Y0.mk (Y3 (bU B_1.out) hb); replace HB := Y0.mk (Y7 (hU HB.out) hb); (try clear hb); (try clear hb2); (try clear hk); (try clear hi)) | ((with_reducible refine Yd (f := 18) rfl ?_); refine goesA (some 31) Try.func18 #[] ?_; (with_reducible refine (Yb.calls k  t_k _ A16.out).mono ?_); rintro e w26 ⟨rfl, hb⟩; refine ⟨_, rfl, ?_⟩; replace B_0 := Y0.mk (Y3 (bU B_0.out) hb); replace B_1 := Y0.mk (Y3 (bU B_1.out) hb); replace HB := Y0.mk (Y7 (hU HB.out) hb); (try clear hb); (try clear hb2); (try clear hk); (try clear hi)))
   go_ret
   exact ⟨reT, hU HB.out⟩
  ·rw [if_neg c15] at H
   have c15b0 := bqF c15
   have c15b1 := bnT c15
   obtain ⟨⟨t_e, t_2, t_r⟩, A270, H⟩ := bS H
   try dsimp only at H
   have A27 := Y0.mk A270
   clear A270
   obtain ⟨⟨t_5, t_0, t_q⟩, A280, H⟩ := bS H
   try dsimp only at H
   have A28 := Y0.mk A280
   clear A280
   obtain ⟨⟨t_f, t_6⟩, A290, H⟩ := bS H
   try dsimp only at H
   have A29 := Y0.mk A290
   clear A290
   obtain ⟨⟨t_3, t_1, t_i⟩, A300, H⟩ := bS H
   try dsimp only at H
   have A30 := Y0.mk A300
   clear A300
   obtain ⟨⟨t_m, t_n⟩, A310, H⟩ := bS H
   try dsimp only at H
   have A31 := Y0.mk A310
   clear A310
   obtain ⟨⟨t_s, t_u⟩, A320, H⟩ := bS H
   try dsimp only at H
   have A32 := Y0.mk A320
   clear A320
   obtain ⟨⟨t_o, t_p, t_t⟩, A330, H⟩ := bS H
   try dsimp only at H
   have A33 := Y0.mk A330
   clear A330
   obtain ⟨⟨t_a, t_7, t_b, t_c, t_8, t_d, t_9, t_v, t_w⟩, A340, H⟩ := bS H
   try dsimp only at H
   have A34 := Y0.mk A340
   clear A340
   obtain ⟨c35, H⟩ := iS H
   have c35b0 := bqT c35
   have c35b1 := bnF c35
   clear c35
   obtain ⟨c36, H⟩ := iS H
   have c36b0 := bqT c36
   have c36b1 := bnF c36
   clear c36
   obtain ⟨c37, H⟩ := iS H
   have c37b0 := bqT c37
   have c37b1 := bnF c37
   clear c37
   obtain ⟨c38, H⟩ := iS H
   have c38b0 := bqT c38
   have c38b1 := bnF c38
   clear c38
   obtain ⟨c39, H⟩ := iS H
   have c39b0 := bqT c39
   have c39b1 := bnF c39
   clear c39
   obtain ⟨c40, H⟩ := iS H
   have c40b0 := bqT c40
   have c40b1 := bnF c40
   clear c40
   by_cases c41 : (!(t_a == 0) || (!(t_7 == 0) || (!(t_b == 0) || (!(t_c == 0) || (!(t_8 == 0) || (!(t_d == 0) || (!(t_9 == 0)))))))) = true
   ·rw [if_pos c41] at H
    exact absurd H (by simp)
   rw [if_neg c41] at H
   have c41b0 : (!(t_a == 0) || (!(t_7 == 0) || (!(t_b == 0) || (!(t_c == 0) || (!(t_8 == 0) || (!(t_d == 0) || (!(t_9 == 0)))))))) = false := by simpa using c41
   clear c41
   by_cases c42 : t_v = true
   ·subst c42
    have H1 : (none) = some r := by rw [if_pos rfl] at H; exact H
    clear H
    have H := H1
    clear H1
    exact absurd H (by simp)
   replace c42 := Bool.eq_false_iff.mpr c42
   subst c42
   rw [if_neg (show ¬ (false = true) by decide)] at H
   obtain ⟨c43, H⟩ := iS H
   have c43b0 := bqT c43
   have c43b1 := bnF c43
   clear c43
   obtain ⟨c44, H⟩ := iS H
   have c44b0 := bqT c44
   have c44b1 := bnF c44
   clear c44
   obtain ⟨c45, H⟩ := iS H
   have c45b0 := bqT c45
   have c45b1 := bnF c45
   clear c45
   obtain ⟨c46, H⟩ := iS H
   have c46b0 := bqT c46
   have c46b1 := bnF c46
   clear c46
   obtain ⟨c47, H⟩ := iS H
   have c47b0 := bqT c47
   have c47b1 := bnF c47
   clear c47
   obtain ⟨c48, H⟩ := iS H
   have c48b0 := bqT c48
   have c48b1 := bnF c48
   clear c48
   obtain ⟨t_j, A490, H⟩ := bS H
   replace H : (some t_j) = some r := H
   have A49 := Y0.mk A490
   clear A490
   obtain rfl := Option.some.inj H
   go_enter Try.func9, Try.ntmps9
   try go_wp2_with (first | ((with_reducible refine Yf (N := 2) rfl ?_); (try (refine YZ (by rfl) ?_; dsimp only)); refine Yg ?hg (N := 2) ?hd (cs := #[.int .i64 a0_0, .slice A0_1 l0_1.length c0_1]) (t := 24) ?hr ?_; (case hd => rfl); (case hg => rfl); (case hr => first | (go_simp; done) | (go_simp; rfl)); intro g_4 hg w50 hbox hb; have n0_ := Y0.mk (Y7 (hU HB.out) hb); have n1_ := Y0.mk (hbox); have n2_ := gE hg HB; have n3_ := gE hg HB; clear HB; have HB := n0_; have B_0 := n1_; have W_1 := n2_; have G_1 := n3_; clear n0_ n1_ n2_ n3_; clear hb hbox hg) | ((with_reducible refine Yf (N := 3) rfl ?_); (try (refine YZ (by rfl) ?_; dsimp only)); refine Yg ?hg (N := 3) ?hd (cs := #[.int .i64 a1_0, .int .i64 a1_1, .int .i64 a1_2, .int .i64 a1_3, .int .i64 a1_4, .bool a1_5, .int .i64 a1_6, .int .i64 a1_7, .int .i64 a1_8, .int .i64 a1_9, .int .i64 a1_10, .int .i64 a1_11, .int .i64 a1_12]) (t := 30) ?hr ?_; (case hd => rfl); (case hg => rfl); (case hr => first | (go_simp; done) | (go_simp; rfl)); intro g_3 hg w51 hbox hb; have n0_ := Y0.mk (Y3 (bU B_0.out) hb); have n1_ := Y0.mk (Y7 (hU HB.out) hb); have n2_ := Y0.mk (hbox); have n3_ := gE hg HB; have n4_ := gE hg HB; have n5_ := gL hg B_0; have n6_ := gG hg B_0; clear B_0; clear HB; have B_0 := n0_; have HB := n1_; have B_1 := n2_; have W_2 := n3_; have G_2 := n4_; have N_a := n5_; have N_8 := n6_; clear n0_ n1_ n2_ n3_ n4_ n5_ n6_; clear hb hbox hg; have hnb52 := N_a.out; have hnc52 := N_8.out; have z_g := Y2 B_0.out; have f_a := Y5 B_0.out) | ((with_reducible refine Yd (f := 17) rfl ?_); refine goesA (some 21) Try.func17 #[.agg #[.int .i64 a0_0, .slice A0_1 l0_1.length c0_1]] ?_; (with_reducible refine (Y14.calls a0_0 _ _ l0_1 false _ ?side1 ?side2 A3.out).mono ?_); (case side1 => repeat (first | exact (Kd.C_below HR0_1.out HB.out) | (with_reducible refine Kd.C_alloc ?_ _) | (with_reducible refine Kd.C_drewN ?_ _) | (with_reducible refine Kd.C_drew ?_))); (case side2 => exact HC0_1.out); rintro e w54 ⟨rfl, hb⟩; refine ⟨_, rfl, ?_⟩; replace B_0 := Y0.mk (Y3 (bU B_0.out) hb); replace B_1 := Y0.mk (Y3 (bU B_1.out) hb); replace HB := Y0.mk (Y7 (hU HB.out) hb); (try clear hb); (try clear hb2); (try clear hk); (try clear hi); have z_c := Y2 B_0.out; have f_e := Y5 B_0.out) | ((with_reducible refine Yd (f := 34) rfl ?_); refine goesA (some 24) Try.func34 #[.agg #[.int .i64 a0_0, .slice A0_1 l0_1.length c0_1]] ?_; (with_reducible refine (Ya.calls k a0_0 _ _ l0_1 t_4 _ ?side1 ?side2 A12.out).mono ?_); (case side1 => repeat (first | exact (Kd.C_below HR0_1.out HB.out) | (with_reducible refine Kd.C_alloc ?_ _) | (with_reducible refine Kd.C_drewN ?_ _) | (with_reducible refine Kd.C_drew ?_))); (case side2 => exact HC0_1.out); rintro e w56 ⟨rfl, hb⟩; refine ⟨_, rfl, ?_⟩; replace B_0 := Y0.mk (Y3 (bU B_0.out) hb); replace B_1 := Y0.mk (Y3 (bU B_1.out) hb); replace HB := Y0.mk (Y7 (hU HB.out) hb); (try clear hb); (try clear hb2); (try clear hk); (try clear hi); have z_2 := Y2 B_0.out; have f_7 := Y5 B_0.out) | ((with_reducible refine Yd (f := 29) rfl ?_); refine goesA (some 26) Try.func29 #[.agg #[.int .i64 a0_0, .slice A0_1 l0_1.length c0_1]] ?_; (with_reducible refine (Yu.calls a0_0 _ _ l0_1 t_h _ ?side1 ?side2 A13.out).mono ?_); (case side1 => repeat (first | exact (Kd.C_below HR0_1.out HB.out) | (with_reducible refine Kd.C_alloc ?_ _) | (with_reducible refine Kd.C_drewN ?_ _) | (with_reducible refine Kd.C_drew ?_))); (case side2 => exact HC0_1.out); rintro e w58 ⟨rfl, hb⟩; refine ⟨_, rfl, ?_⟩; replace B_0 := Y0.mk (Y3 (bU B_0.out) hb); replace B_1 := Y0.mk (Y3 (bU B_1.out) hb); replace HB := Y0.mk (Y7 (hU HB.out) hb); (try clear hb); (try clear hb2); (try clear hk); (try clear hi); have z_b := Y2 B_0.out; have f_1 := Y5 B_0.out; have z_0 := Y2 B_1.out; have f_c := Y5 B_1.out) | ((with_reducible refine Yd (f := 19) rfl ?_); refine goesA (some 35) Try.func19 #[.agg #[.int .i64 a0_0, .slice A0_1 l0_1.length c0_1], .agg #[.int .i64 a1_0, .int .i64 a1_1, .int .i64 a1_2, .int .i64 a1_3, .int .i64 a1_4, .bool a1_5, .int .i64 a1_6, .int .i64 a1_7, .int .i64 a1_8, .int .i64 a1_9, .int .i64 a1_10, .int .i64 a1_11, .int .i64 a1_12]] ?_; (with_reducible refine (YD.calls a0_0 _ _ l0_1 a1_0 a1_1 a1_2 a1_3 a1_4 a1_5 a1_6 a1_7 a1_8 a1_9 a1_10 a1_11 a1_12 t_e t_2 t_r _ ?side1 ?side2 A27.out).mono ?_); (case side1 => repeat (first | exact (Kd.C_below HR0_1.out HB.out) | (with_reducible refine Kd.C_alloc ?_ _) | (with_reducible refine Kd.C_drewN ?_ _) | (with_reducible refine Kd.C_drew ?_))); (case side2 => exact HC0_1.out); rintro e w61 ⟨v_3, rfl, ho0, hb⟩; refine ⟨_, rfl, ?_⟩; replace O_0 := Y0.mk (Kd.R_lower (Kd.R_newB ho0 (bU B_1.out)) (Ym (hU HB.out))); replace B_0 := Y0.mk (Y3 (bU B_0.out) hb); replace B_1 := Y0.mk (Y3 (bU B_1.out) hb); replace HB := Y0.mk (Y7 (hU HB.out) hb); (try clear hb); (try clear hb2); (try clear hk); (try clear hi); (try clear ho0)) | ((with_reducible refine Yf (N := 6) rfl ?_); (try (refine YZ (by rfl) ?_; dsimp only)); refine Yg ?hg (N := 6) ?hd (cs := #[.int .i64 0, .slice none 0 0]) (t := 24) ?hr ?_; (case hd => rfl); (case hg => rfl); (case hr => first | (go_simp; done) | (go_simp; rfl)); intro g_5 hg w62 hbox hb; have n0_ := Y0.mk (Kd.R_below (Kd.rU O_0.out) hb); have n1_ := Y0.mk (Y3 (bU B_0.out) hb); have n2_ := Y0.mk (Y3 (bU B_1.out) hb); have n3_ := Y0.mk (Y7 (hU HB.out) hb); have n4_ := Y0.mk (hbox); have n5_ := gE hg HB; have n6_ := gE hg HB; have n7_ := gL hg B_0; have n8_ := gG hg B_0; have n9_ := gL hg B_1; have n10_ := gG hg B_1; clear O_0; clear B_0; clear B_1; clear HB; have O_0 := n0_; have B_0 := n1_; have B_1 := n2_; have HB := n3_; have B_2 := n4_; have W_4 := n5_; have G_4 := n6_; have N_b := n7_; have N_s := n8_; have N_9 := n9_; have N_o := n10_; clear n0_ n1_ n2_ n3_ n4_ n5_ n6_ n7_ n8_ n9_ n10_; clear hb hbox hg; have hnb63 := N_s.out; have hnc63 := N_b.out; have hnb64 := N_o.out; have hnc64 := N_9.out; have z_5 := Y2 B_2.out; have f_3 := Y5 B_2.out; obtain ⟨Ao66, co66, eo66⟩ := Kd.R_slice O_0.out; subst eo66; have z_8 := Y2 B_0.out; have f_i := Y5 B_0.out) | ((with_reducible refine Yd (f := 31) rfl ?_); refine goesA (some 41) Try.func31 #[.agg #[.int .i64 a0_0, .slice A0_1 l0_1.length c0_1], .agg #[.int .i64 a0_0, .slice A0_1 l0_1.length c0_1]] ?_; (with_reducible refine (Yc.calls k a0_0 _ _ l0_1 a0_0 _ _ l0_1 t_5 t_0 t_q _ ?side1 ?side2 ?side3 ?side4 A28.out).mono ?_); (case side1 => exact Kd.C_below HR0_1.out (hU HB.out)); (case side2 => exact HC0_1.out); (case side3 => exact Kd.C_below HR0_1.out (hU HB.out)); (case side4 => exact HC0_1.out); rintro e w68 ⟨v_6, rfl, ho0, hb⟩; refine ⟨_, rfl, ?_⟩; replace O_1 := Y0.mk (Kd.R_lower (Kd.R_newB (Kd.R_new' ho0 (Kd.R_lt (by (with_reducible repeat (first | apply Kd.R_alloc | apply Kd.R_drewN | apply Kd.R_drew)); exact (Kd.R_mono (rf2 (g := g_5) (Kd.R_types O_0.out B_2.out (by decide)) (fun _ hk => hk.2)) (fun _ h_ => h_.1))))) (g := g_3) (o := .cells #[.int .i64 a1_0, .int .i64 a1_1, .int .i64 a1_2, .int .i64 a1_3, .int .i64 a1_4, .bool a1_5, .int .i64 a1_6, .int .i64 a1_7, .int .i64 a1_8, .int .i64 a1_9, .int .i64 a1_10, .int .i64 a1_11, .int .i64 a1_12] 30 (0, 0)) (by (with_reducible repeat (first | refine Y8 ?_ _ | refine Y6 ?_ | refine Y4 ?_ _)); refine (Below.heap_setCell _ ⟨_, _, none⟩ _ _ N_9.out).trans ?_; (with_reducible repeat (first | refine Y8 ?_ _ | refine Y6 ?_ | refine Y4 ?_ _)); refine (Below.heap_setCell _ ⟨_, _, none⟩ _ _ N_9.out).trans ?_; (with_reducible repeat (first | refine Y8 ?_ _ | refine Y6 ?_ | refine Y4 ?_ _)); exact B_1.out)) (Ym (hU HB.out))); replace O_0 := Y0.mk (Kd.R_elder' (by (with_reducible repeat (first | apply Kd.R_alloc | apply Kd.R_drewN | apply Kd.R_drew)); exact (Kd.R_mono (rf2 (g := g_5) (Kd.R_types O_0.out B_2.out (by decide)) (fun _ hk => hk.2)) (fun _ h_ => h_.1))) (Kd.R_base ho0) hb); replace B_0 := Y0.mk (Y3 (g := g_4) (o := .cells #[.int .i64 a0_0, .slice A0_1 l0_1.length c0_1] 24 (0, 0)) (by (with_reducible repeat (first | refine Y8 ?_ _ | refine Y6 ?_ | refine Y4 ?_ _)); refine (Below.heap_setCell _ ⟨_, _, none⟩ _ _ N_b.out).trans ?_; (with_reducible repeat (first | refine Y8 ?_ _ | refine Y6 ?_ | refine Y4 ?_ _)); refine (Below.heap_setCell _ ⟨_, _, none⟩ _ _ N_b.out).trans ?_; (with_reducible repeat (first | refine Y8 ?_ _ | refine Y6 ?_ | refine Y4 ?_ _)); exact B_0.out) hb); replace B_1 := Y0.mk (Y3 (g := g_3) (o := .cells #[.int .i64 a1_0, .int .i64 a1_1, .int .i64 a1_2, .int .i64 a1_3, .int .i64 a1_4, .bool a1_5, .int .i64 a1_6, .int .i64 a1_7, .int .i64 a1_8, .int .i64 a1_9, .int .i64 a1_10, .int .i64 a1_11, .int .i64 a1_12] 30 (0, 0)) (by (with_reducible repeat (first | refine Y8 ?_ _ | refine Y6 ?_ | refine Y4 ?_ _)); refine (Below.heap_setCell _ ⟨_, _, none⟩ _ _ N_9.out).trans ?_; (with_reducible repeat (first | refine Y8 ?_ _ | refine Y6 ?_ | refine Y4 ?_ _)); refine (Below.heap_setCell _ ⟨_, _, none⟩ _ _ N_9.out).trans ?_; (with_reducible repeat (first | refine Y8 ?_ _ | refine Y6 ?_ | refine Y4 ?_ _)); exact B_1.out) hb); replace B_2 := Y0.mk (Y3 (g := g_5) (o := .cells #[.int .i64 t_e, .slice Ao66 t_2.length co66] 24 (0, 0)) (by (with_reducible repeat (first | refine Y8 ?_ _ | refine Y6 ?_ | refine Y4 ?_ _)); refine Yq (cs := #[.int .i64 t_e, .slice none 0 0]) ?_ 1 _ rfl; (with_reducible repeat (first | refine Y8 ?_ _ | refine Y6 ?_ | refine Y4 ?_ _)); refine Yq (cs := #[.int .i64 0, .slice none 0 0]) ?_ 0 _ rfl; (with_reducible repeat (first | refine Y8 ?_ _ | refine Y6 ?_ | refine Y4 ?_ _)); exact B_2.out) hb); replace HB := Y0.mk (Y7 (hU HB.out) hb); (try clear hb); (try clear hb2); (try clear hk); (try clear hi); (try clear ho0)) | ((with_reducible refine Yf (N := 8) rfl ?_); (try (refine YZ (by rfl) ?_; dsimp only)); refine Yg ?hg (N := 8) ?hd (cs := #[.int .i64 0, .slice none 0 0]) (t := 24) ?hr ?_; (case hd => rfl); (case hg => rfl); (case hr => first | (go_simp; done) | (go_simp; rfl)); intro g_2 hg w69 hbox hb; have n0_ := Y0.mk (Kd.R_below (Kd.rU O_0.out) hb); have n1_ := Y0.mk (Kd.R_below (Kd.rU O_1.out) hb); have n2_ := Y0.mk (Y3 (bU B_0.out) hb); have n3_ := Y0.mk (Y3 (bU B_1.out) hb); have n4_ := Y0.mk (Y3 (bU B_2.out) hb); have n5_ := Y0.mk (Y7 (hU HB.out) hb); have n6_ := Y0.mk (hbox); have n7_ := gE hg HB; have n8_ := gE hg HB; have n9_ := gL hg B_0; have n10_ := gG hg B_0; have n11_ := gL hg B_1; have n12_ := gG hg B_1; have n13_ := gL hg B_2; have n14_ := gG hg B_2; clear O_0; clear O_1; clear B_0; clear B_1; clear B_2; clear HB; have O_0 := n0_; have O_1 := n1_; have B_0 := n2_; have B_1 := n3_; have B_2 := n4_; have HB := n5_; have B_3 := n6_; have W_3 := n7_; have G_5 := n8_; have N_d := n9_; have N_t := n10_; have N_c := n11_; have N_m := n12_; have N_e := n13_; have N_q := n14_; clear n0_ n1_ n2_ n3_ n4_ n5_ n6_ n7_ n8_ n9_ n10_ n11_ n12_ n13_ n14_; clear hb hbox hg; have hnb70 := N_t.out; have hnc70 := N_d.out; have hnb71 := N_m.out; have hnc71 := N_c.out; have hnb72 := N_q.out; have hnc72 := N_e.out; have z_d := Y2 B_3.out; have f_b := Y5 B_3.out; obtain ⟨Ao74, co74, eo74⟩ := Kd.R_slice O_1.out; subst eo74))
   have n0_ : Y0 (Kd.R k30 30 ((w69.setCell ⟨g_2, 0, none⟩ (.int .i64 t_5)).setCell ⟨g_2, 1, none⟩ (.slice Ao74 t_0.length co74)) w.heap.size (fun k_ => some k_ ≠ (.slice Ao74 t_0.length co74 : Value).ownBlock ∧ k_ ≠ g_3) (.slice Ao66 t_2.length co66) t_2) := ⟨by (with_reducible repeat (first | apply Kd.R_alloc | apply Kd.R_drewN | apply Kd.R_drew)); exact Kd.R_mono (rf2 (g := g_2) (Kd.R_types O_0.out B_3.out (by decide)) (fun _ hk => hk.2)) (fun _ hk => by revert hk; simp only [and_imp]; intros; (repeat' apply And.intro) <;> assumption)⟩
   have n1_ : Y0 (Kd.R k30 30 ((w69.setCell ⟨g_2, 0, none⟩ (.int .i64 t_5)).setCell ⟨g_2, 1, none⟩ (.slice Ao74 t_0.length co74)) w.heap.size (fun k_ => some k_ ≠ (.slice Ao66 t_2.length co66 : Value).ownBlock ∧ k_ ≠ g_3) (.slice Ao74 t_0.length co74) t_0) := ⟨by (with_reducible repeat (first | apply Kd.R_alloc | apply Kd.R_drewN | apply Kd.R_drew)); exact Kd.R_mono (rf2 (g := g_2) (Kd.R_types O_1.out B_3.out (by decide)) (fun _ hk => hk.2)) (fun _ hk => by revert hk; simp only [and_imp]; intros; (repeat' apply And.intro) <;> assumption)⟩
   have n2_ : Y0 (((w69.setCell ⟨g_2, 0, none⟩ (.int .i64 t_5)).setCell ⟨g_2, 1, none⟩ (.slice Ao74 t_0.length co74)).heap[g_4]? = some (.cells #[.int .i64 a0_0, .slice A0_1 l0_1.length c0_1] 24 (0, 0))) := ⟨by (with_reducible repeat (first | refine Y8 ?_ _ | refine Y6 ?_ | refine Y4 ?_ _)); refine (Below.heap_setCell _ ⟨_, _, none⟩ _ _ N_d.out).trans ?_; (with_reducible repeat (first | refine Y8 ?_ _ | refine Y6 ?_ | refine Y4 ?_ _)); refine (Below.heap_setCell _ ⟨_, _, none⟩ _ _ N_d.out).trans ?_; (with_reducible repeat (first | refine Y8 ?_ _ | refine Y6 ?_ | refine Y4 ?_ _)); exact B_0.out⟩
   have n3_ : Y0 (((w69.setCell ⟨g_2, 0, none⟩ (.int .i64 t_5)).setCell ⟨g_2, 1, none⟩ (.slice Ao74 t_0.length co74)).heap[g_3]? = some (.cells #[.int .i64 a1_0, .int .i64 a1_1, .int .i64 a1_2, .int .i64 a1_3, .int .i64 a1_4, .bool a1_5, .int .i64 a1_6, .int .i64 a1_7, .int .i64 a1_8, .int .i64 a1_9, .int .i64 a1_10, .int .i64 a1_11, .int .i64 a1_12] 30 (0, 0))) := ⟨by (with_reducible repeat (first | refine Y8 ?_ _ | refine Y6 ?_ | refine Y4 ?_ _)); refine (Below.heap_setCell _ ⟨_, _, none⟩ _ _ N_c.out).trans ?_; (with_reducible repeat (first | refine Y8 ?_ _ | refine Y6 ?_ | refine Y4 ?_ _)); refine (Below.heap_setCell _ ⟨_, _, none⟩ _ _ N_c.out).trans ?_; (with_reducible repeat (first | refine Y8 ?_ _ | refine Y6 ?_ | refine Y4 ?_ _)); exact B_1.out⟩
   have n4_ : Y0 (((w69.setCell ⟨g_2, 0, none⟩ (.int .i64 t_5)).setCell ⟨g_2, 1, none⟩ (.slice Ao74 t_0.length co74)).heap[g_5]? = some (.cells #[.int .i64 t_e, .slice Ao66 t_2.length co66] 24 (0, 0))) := ⟨by (with_reducible repeat (first | refine Y8 ?_ _ | refine Y6 ?_ | refine Y4 ?_ _)); refine (Below.heap_setCell _ ⟨_, _, none⟩ _ _ N_e.out).trans ?_; (with_reducible repeat (first | refine Y8 ?_ _ | refine Y6 ?_ | refine Y4 ?_ _)); refine (Below.heap_setCell _ ⟨_, _, none⟩ _ _ N_e.out).trans ?_; (with_reducible repeat (first | refine Y8 ?_ _ | refine Y6 ?_ | refine Y4 ?_ _)); exact B_2.out⟩
   have n5_ : Y0 (((w69.setCell ⟨g_2, 0, none⟩ (.int .i64 t_5)).setCell ⟨g_2, 1, none⟩ (.slice Ao74 t_0.length co74)).heap[g_2]? = some (.cells #[.int .i64 t_5, .slice Ao74 t_0.length co74] 24 (0, 0))) := ⟨by (with_reducible repeat (first | refine Y8 ?_ _ | refine Y6 ?_ | refine Y4 ?_ _)); refine Yq (cs := #[.int .i64 t_5, .slice none 0 0]) ?_ 1 _ rfl; (with_reducible repeat (first | refine Y8 ?_ _ | refine Y6 ?_ | refine Y4 ?_ _)); refine Yq (cs := #[.int .i64 0, .slice none 0 0]) ?_ 0 _ rfl; (with_reducible repeat (first | refine Y8 ?_ _ | refine Y6 ?_ | refine Y4 ?_ _)); exact B_3.out⟩
   have n6_ : Y0 (Below w.heap.size w ((w69.setCell ⟨g_2, 0, none⟩ (.int .i64 t_5)).setCell ⟨g_2, 1, none⟩ (.slice Ao74 t_0.length co74))) := ⟨hU HB.out⟩
   (try clear O_0)
   (try clear O_1)
   (try clear B_0)
   (try clear B_1)
   (try clear B_2)
   (try clear B_3)
   (try clear HB)
   generalize ((w69.setCell ⟨g_2, 0, none⟩ (.int .i64 t_5)).setCell ⟨g_2, 1, none⟩ (.slice Ao74 t_0.length co74)) = w75 at n0_ n1_ n2_ n3_ n4_ n5_ n6_ ⊢
   have O_0 := n0_
   have O_1 := n1_
   have B_0 := n2_
   have B_1 := n3_
   have B_2 := n4_
   have B_3 := n5_
   have HB := n6_
   clear n0_ n1_ n2_ n3_ n4_ n5_ n6_
   have n0_ := Y0.mk (Kd.R_drew O_0.out)
   have n1_ := Y0.mk (Kd.R_drew O_1.out)
   have n2_ := Y0.mk (Y6 B_0.out)
   have n3_ := Y0.mk (Y6 B_1.out)
   have n4_ := Y0.mk (Y6 B_2.out)
   have n5_ := Y0.mk (Y6 B_3.out)
   have n6_ := Y0.mk (YB HB.out)
   clear O_0
   clear O_1
   clear B_0
   clear B_1
   clear B_2
   clear B_3
   clear HB
   have O_0 := n0_
   have O_1 := n1_
   have B_0 := n2_
   have B_1 := n3_
   have B_2 := n4_
   have B_3 := n5_
   have HB := n6_
   clear n0_ n1_ n2_ n3_ n4_ n5_ n6_
   refine Y1i (n := 9) (S := fun w' => w'.cell? ⟨g_4, 0, none⟩ = some (.int .i64 a0_0) ∧ w'.cell? ⟨g_4, 1, none⟩ = some (.slice A0_1 l0_1.length c0_1)) (ds := []) #[false, false, false, false, false, false, false, false, false] (by kernel_rfl) rfl rfl ⟨(Y2 B_0.out 0).trans rfl, (Y2 B_0.out 1).trans rfl⟩ (fun hHeld => ?_); refine YY Yk.tab10 Yk.bits10 (fun HT_ HW_ => ?_)
   generalize w75.drew = w76 at O_0 O_1 B_0 B_1 B_2 B_3 HB hHeld ⊢
   refine tkA 1 46 (bs 9 2) hHeld ?_
   refine join_ (σ := Value × Value × Nat) 2 #[true, true, true, true, true, true, true, false, false] (fun s_ => [(45, .agg #[.int .i64 t_f, s_.1]), (47, .tuple #[.agg #[.int .i64 t_3, s_.2.1], .int .i64 t_i]), (10, .pointer (some ⟨s_.2.2, 0, none⟩)), (44, .tuple #[.agg #[.int .i64 t_3, s_.2.1], .int .i64 t_i]), (48, .agg #[.int .i64 t_3, s_.2.1]), (49, .int .i64 t_i)]) (fun s_ w' => (w'.cell? ⟨g_4, 0, none⟩ = some (.int .i64 a0_0) ∧ w'.cell? ⟨g_4, 1, none⟩ = some (.slice A0_1 l0_1.length c0_1)) ∧ (Kd.R k30 30 w' w.heap.size (fun k_ => some k_ ≠ (.slice Ao74 t_0.length co74 : Value).ownBlock ∧ some k_ ≠ (s_.1 : Value).ownBlock ∧ some k_ ≠ (s_.2.1 : Value).ownBlock ∧ k_ ≠ g_3) (.slice Ao66 t_2.length co66) t_2) ∧ (Kd.R k30 30 w' w.heap.size (fun k_ => some k_ ≠ (.slice Ao66 t_2.length co66 : Value).ownBlock ∧ some k_ ≠ (s_.1 : Value).ownBlock ∧ some k_ ≠ (s_.2.1 : Value).ownBlock ∧ k_ ≠ g_3) (.slice Ao74 t_0.length co74) t_0) ∧ (Kd.R k30 30 w' w.heap.size (fun k_ => some k_ ≠ (.slice Ao66 t_2.length co66 : Value).ownBlock ∧ some k_ ≠ (.slice Ao74 t_0.length co74 : Value).ownBlock ∧ some k_ ≠ (s_.2.1 : Value).ownBlock ∧ k_ ≠ g_3) s_.1 t_6) ∧ (Kd.R k30 30 w' w.heap.size (fun k_ => some k_ ≠ (.slice Ao66 t_2.length co66 : Value).ownBlock ∧ some k_ ≠ (.slice Ao74 t_0.length co74 : Value).ownBlock ∧ some k_ ≠ (s_.1 : Value).ownBlock ∧ k_ ≠ g_3) s_.2.1 t_1) ∧ (w'.heap[g_4]? = some (.cells #[.int .i64 a0_0, .slice A0_1 l0_1.length c0_1] 24 (0, 0))) ∧ (w'.heap[g_3]? = some (.cells #[.int .i64 a1_0, .int .i64 a1_1, .int .i64 a1_2, .int .i64 a1_3, .int .i64 a1_4, .bool a1_5, .int .i64 a1_6, .int .i64 a1_7, .int .i64 a1_8, .int .i64 a1_9, .int .i64 a1_10, .int .i64 a1_11, .int .i64 a1_12] 30 (0, 0))) ∧ (w'.heap[g_5]? = some (.cells #[.int .i64 t_e, .slice Ao66 t_2.length co66] 24 (0, 0))) ∧ (w'.heap[g_2]? = some (.cells #[.int .i64 t_5, .slice Ao74 t_0.length co74] 24 (0, 0))) ∧ (w'.heap[s_.2.2]? = some (.cells #[.int .i64 0, .slice none 0 0] 24 (0, 0))) ∧ (w.heap.size ≤ s_.2.2) ∧ (w.heap.size ≤ s_.2.2) ∧ (g_4 ≠ s_.2.2) ∧ (s_.2.2 ≠ g_4) ∧ (g_3 ≠ s_.2.2) ∧ (s_.2.2 ≠ g_3) ∧ (g_5 ≠ s_.2.2) ∧ (s_.2.2 ≠ g_5) ∧ (g_2 ≠ s_.2.2) ∧ (s_.2.2 ≠ g_2) ∧ (Below w.heap.size w w')) ?_ ?_
   rotate_left
   ·intro hCont
    refine two_ (i := 0) (j := 6) (Ni := some 45) (Nj := some 10) #[true, true, false, false, false, false, false, false, false] #[false, true, false, false, false, false, true, false, false] rfl rfl rfl rfl (Y1J HT_.out (by kernel_rfl)) (by decide) (by decide) (fun K hK => ?_) (fun K hK => ?_)
    ·skip
     refine goes_ Try.func35 (by kernel_rfl) rfl #[] (by rfl) rfl rfl (by (try simp only [List.map_toArray, List.map_cons, List.map_nil]); first | done | rfl | (simp only [List.length_drop, List.length_take]; rfl)) ?_
     with_reducible refine (YG.calls  t_f t_6 _ A29.out).mono ?_
     rintro e w77 ⟨v_0, rfl, ho0, hb⟩
     refine ⟨_, rfl, ?_⟩
     replace O_2 := Y0.mk (Kd.R_lower (Kd.R_newB (Kd.R_new' (Kd.R_new' ho0 (Kd.R_lt (Kd.rU O_0.out))) (Kd.R_lt (Kd.rU O_1.out))) (bU B_1.out)) (Ym (hU HB.out)))
     replace O_0 := Y0.mk (Kd.R_elder' (Kd.rU O_0.out) (Kd.R_base ho0) hb)
     replace O_1 := Y0.mk (Kd.R_elder' (Kd.rU O_1.out) (Kd.R_base ho0) hb)
     replace B_0 := Y0.mk (Y3 (bU B_0.out) hb)
     replace B_1 := Y0.mk (Y3 (bU B_1.out) hb)
     replace B_2 := Y0.mk (Y3 (bU B_2.out) hb)
     replace B_3 := Y0.mk (Y3 (bU B_3.out) hb)
     replace HB := Y0.mk (Y7 (hU HB.out) hb)
     (try clear hb)
     (try clear hb2)
     (try clear hk)
     (try clear hi)
     (try clear ho0)
     obtain ⟨Ao78, co78, eo78⟩ := Kd.R_slice O_2.out
     (first | subst eo78 | (injection eo78 with f1_ f2_ f3_; have f4_ := f1_.symm; have f5_ := f3_.symm; clear f1_ f2_ f3_; subst f4_; subst f5_))
     refine hK.out _ _ ⟨(Y2 B_0.out 0).trans rfl, (Y2 B_0.out 1).trans rfl⟩ (fun hHeld => ?_)
     clear hK K
     refine nmA 45 ?_
     refine two_ (i := 2) (j := 6) (Ni := some 47) (Nj := some 10) #[true, true, true, false, false, false, false, false, false] #[true, true, false, false, false, false, true, false, false] rfl rfl rfl rfl (Y1J HT_.out (by kernel_rfl)) (by decide) (by decide) (fun K hK => ?_) (fun K hK => ?_)
     ·skip
      refine goes_ Try.func31 (by kernel_rfl) rfl #[.agg #[.int .i64 t_f, .slice Ao78 t_6.length co78], .agg #[.int .i64 a0_0, .slice A0_1 l0_1.length c0_1]] (by rfl) rfl rfl (by (try simp only [List.map_toArray, List.map_cons, List.map_nil]); first | done | rfl | (simp only [List.length_drop, List.length_take]; rfl)) ?_
      with_reducible refine (Yc.calls k t_f _ _ t_6 a0_0 _ _ l0_1 t_3 t_1 t_i _ ?side1 ?side2 ?side3 ?side4 A30.out).mono ?_
      (case side1 => repeat (first | exact (Kd.R_reads' O_2.out).2.2 | (with_reducible refine Kd.C_alloc ?_ _) | (with_reducible refine Kd.C_drewN ?_ _) | (with_reducible refine Kd.C_drew ?_)))
      (case side2 => exact (Kd.R_reads' O_2.out).2.1)
      (case side3 => repeat (first | exact (Kd.C_below HR0_1.out HB.out) | (with_reducible refine Kd.C_alloc ?_ _) | (with_reducible refine Kd.C_drewN ?_ _) | (with_reducible refine Kd.C_drew ?_)))
      (case side4 => exact HC0_1.out)
      rintro e w79 ⟨v_1, rfl, ho0, hb⟩
      refine ⟨_, rfl, ?_⟩
      replace O_3 := Y0.mk (Kd.R_lower (Kd.R_newB (Kd.R_new' (Kd.R_new' (Kd.R_new' ho0 (Kd.R_lt (Kd.rU O_0.out))) (Kd.R_lt (Kd.rU O_1.out))) (Kd.R_lt (Kd.rU O_2.out))) (bU B_1.out)) (Ym (hU HB.out)))
      replace O_0 := Y0.mk (Kd.R_elder' (Kd.rU O_0.out) (Kd.R_base ho0) hb)
      replace O_1 := Y0.mk (Kd.R_elder' (Kd.rU O_1.out) (Kd.R_base ho0) hb)
      replace O_2 := Y0.mk (Kd.R_elder' (Kd.rU O_2.out) (Kd.R_base ho0) hb)
      replace B_0 := Y0.mk (Y3 (bU B_0.out) hb)
      replace B_1 := Y0.mk (Y3 (bU B_1.out) hb)
      replace B_2 := Y0.mk (Y3 (bU B_2.out) hb)
      replace B_3 := Y0.mk (Y3 (bU B_3.out) hb)
      replace HB := Y0.mk (Y7 (hU HB.out) hb)
      (try clear hb)
      (try clear hb2)
      (try clear hk)
      (try clear hi)
      (try clear ho0)
      refine hK.out _ _ ⟨(Y2 B_0.out 0).trans rfl, (Y2 B_0.out 1).trans rfl⟩ (fun hHeld => ?_)
      clear hK K
      refine nmA 47 ?_
      refine puA 3 44 (bs 9 15) ?_
      refine puA 4 48 (bs 9 31) ?_
      refine puA 5 49 (bs 9 63) ?_
      refine one_ (i := 6) (N := some 10) (bs 9 127) rfl rfl (YQ HT_.out (by kernel_rfl)) (by decide) (fun K hK => ?_)
      refine Y1f ?hg (N := 10) ?hd (cs := #[.int .i64 0, .slice none 0 0]) (t := 24) ?hr ?_; (case hd => rfl); (case hg => rfl); (case hr => first | (go_simp; done) | (go_simp; rfl))
      intro g_1 hg w80 hbox hb
      have n0_ := Y0.mk (Kd.R_below (Kd.rU O_0.out) hb)
      have n1_ := Y0.mk (Kd.R_below (Kd.rU O_1.out) hb)
      have n2_ := Y0.mk (Kd.R_below (Kd.rU O_2.out) hb)
      have n3_ := Y0.mk (Kd.R_below (Kd.rU O_3.out) hb)
      have n4_ := Y0.mk (Y3 (bU B_0.out) hb)
      have n5_ := Y0.mk (Y3 (bU B_1.out) hb)
      have n6_ := Y0.mk (Y3 (bU B_2.out) hb)
      have n7_ := Y0.mk (Y3 (bU B_3.out) hb)
      have n8_ := Y0.mk (Y7 (hU HB.out) hb)
      have n9_ := Y0.mk (hbox)
      have n10_ := gE hg HB
      have n11_ := gE hg HB
      have n12_ := gL hg B_0
      have n13_ := gG hg B_0
      have n14_ := gL hg B_1
      have n15_ := gG hg B_1
      have n16_ := gL hg B_2
      have n17_ := gG hg B_2
      have n18_ := gL hg B_3
      have n19_ := gG hg B_3
      clear O_0
      clear O_1
      clear O_2
      clear O_3
      clear B_0
      clear B_1
      clear B_2
      clear B_3
      clear HB
      have O_0 := n0_
      have O_1 := n1_
      have O_2 := n2_
      have O_3 := n3_
      have B_0 := n4_
      have B_1 := n5_
      have B_2 := n6_
      have B_3 := n7_
      have HB := n8_
      have B_4 := n9_
      have W_0 := n10_
      have G_0 := n11_
      have N_0 := n12_
      have N_6 := n13_
      have N_1 := n14_
      have N_7 := n15_
      have N_2 := n16_
      have N_5 := n17_
      have N_3 := n18_
      have N_4 := n19_
      clear n0_ n1_ n2_ n3_ n4_ n5_ n6_ n7_ n8_ n9_ n10_ n11_ n12_ n13_ n14_ n15_ n16_ n17_ n18_ n19_
      clear hb hbox hg
      refine hK.out _ _ ⟨(Y2 B_0.out 0).trans rfl, (Y2 B_0.out 1).trans rfl⟩ (fun hHeld => ?_)
      clear hK K
      refine nmA 10 ?_
      exact norm_ (by simp only [YP, Act.put, List.setIfInBounds_toArray, List.set_cons_zero, List.set_cons_succ]) (hCont (.slice Ao78 t_6.length co78, v_1, g_1) _ ⟨hHeld, (by (with_reducible repeat (first | apply Kd.R_alloc | apply Kd.R_drewN | apply Kd.R_drew)); exact Kd.R_mono O_0.out (fun _ hk => by revert hk; simp only [and_imp]; intros; (repeat' apply And.intro) <;> assumption)), (by (with_reducible repeat (first | apply Kd.R_alloc | apply Kd.R_drewN | apply Kd.R_drew)); exact Kd.R_mono O_1.out (fun _ hk => by revert hk; simp only [and_imp]; intros; (repeat' apply And.intro) <;> assumption)), (by (with_reducible repeat (first | apply Kd.R_alloc | apply Kd.R_drewN | apply Kd.R_drew)); exact Kd.R_mono O_2.out (fun _ hk => by revert hk; simp only [and_imp]; intros; (repeat' apply And.intro) <;> assumption)), (by (with_reducible repeat (first | apply Kd.R_alloc | apply Kd.R_drewN | apply Kd.R_drew)); exact Kd.R_mono O_3.out (fun _ hk => by revert hk; simp only [and_imp]; intros; (repeat' apply And.intro) <;> assumption)), (bU B_0.out), (bU B_1.out), (bU B_2.out), (bU B_3.out), (bU B_4.out), W_0.out, G_0.out, N_0.out, N_6.out, N_1.out, N_7.out, N_2.out, N_5.out, N_3.out, N_4.out, (hU HB.out)⟩)
     ·skip
      refine Y1f ?hg (N := 10) ?hd (cs := #[.int .i64 0, .slice none 0 0]) (t := 24) ?hr ?_; (case hd => rfl); (case hg => rfl); (case hr => first | (go_simp; done) | (go_simp; rfl))
      intro g_1 hg w78 hbox hb
      have n0_ := Y0.mk (Kd.R_below (Kd.rU O_0.out) hb)
      have n1_ := Y0.mk (Kd.R_below (Kd.rU O_1.out) hb)
      have n2_ := Y0.mk (Kd.R_below (Kd.rU O_2.out) hb)
      have n3_ := Y0.mk (Y3 (bU B_0.out) hb)
      have n4_ := Y0.mk (Y3 (bU B_1.out) hb)
      have n5_ := Y0.mk (Y3 (bU B_2.out) hb)
      have n6_ := Y0.mk (Y3 (bU B_3.out) hb)
      have n7_ := Y0.mk (Y7 (hU HB.out) hb)
      have n8_ := Y0.mk (hbox)
      have n9_ := gE hg HB
      have n10_ := gE hg HB
      have n11_ := gL hg B_0
      have n12_ := gG hg B_0
      have n13_ := gL hg B_1
      have n14_ := gG hg B_1
      have n15_ := gL hg B_2
      have n16_ := gG hg B_2
      have n17_ := gL hg B_3
      have n18_ := gG hg B_3
      clear O_0
      clear O_1
      clear O_2
      clear B_0
      clear B_1
      clear B_2
      clear B_3
      clear HB
      have O_0 := n0_
      have O_1 := n1_
      have O_2 := n2_
      have B_0 := n3_
      have B_1 := n4_
      have B_2 := n5_
      have B_3 := n6_
      have HB := n7_
      have B_4 := n8_
      have W_0 := n9_
      have G_0 := n10_
      have N_0 := n11_
      have N_6 := n12_
      have N_1 := n13_
      have N_7 := n14_
      have N_2 := n15_
      have N_5 := n16_
      have N_3 := n17_
      have N_4 := n18_
      clear n0_ n1_ n2_ n3_ n4_ n5_ n6_ n7_ n8_ n9_ n10_ n11_ n12_ n13_ n14_ n15_ n16_ n17_ n18_
      clear hb hbox hg
      obtain ⟨Ao79, co79, eo79⟩ := Kd.R_slice O_2.out
      (first | subst eo79 | (injection eo79 with f1_ f2_ f3_; have f4_ := f1_.symm; have f5_ := f3_.symm; clear f1_ f2_ f3_; subst f4_; subst f5_))
      refine hK.out _ _ ⟨(Y2 B_0.out 0).trans rfl, (Y2 B_0.out 1).trans rfl⟩ (fun hHeld => ?_)
      clear hK K
      refine nmA 10 ?_
      refine one_ (i := 2) (N := some 47) (bs 9 71) rfl rfl (YQ HT_.out (by kernel_rfl)) (by decide) (fun K hK => ?_)
      refine goes_ Try.func31 (by kernel_rfl) rfl #[.agg #[.int .i64 t_f, .slice Ao79 t_6.length co79], .agg #[.int .i64 a0_0, .slice A0_1 l0_1.length c0_1]] (by rfl) rfl rfl (by (try simp only [List.map_toArray, List.map_cons, List.map_nil]); first | done | rfl | (simp only [List.length_drop, List.length_take]; rfl)) ?_
      with_reducible refine (Yc.calls k t_f _ _ t_6 a0_0 _ _ l0_1 t_3 t_1 t_i _ ?side1 ?side2 ?side3 ?side4 A30.out).mono ?_
      (case side1 => repeat (first | exact (Kd.R_reads' O_2.out).2.2 | (with_reducible refine Kd.C_alloc ?_ _) | (with_reducible refine Kd.C_drewN ?_ _) | (with_reducible refine Kd.C_drew ?_)))
      (case side2 => exact (Kd.R_reads' O_2.out).2.1)
      (case side3 => repeat (first | exact (Kd.C_below HR0_1.out HB.out) | (with_reducible refine Kd.C_alloc ?_ _) | (with_reducible refine Kd.C_drewN ?_ _) | (with_reducible refine Kd.C_drew ?_)))
      (case side4 => exact HC0_1.out)
      rintro e w80 ⟨v_1, rfl, ho0, hb⟩
      refine ⟨_, rfl, ?_⟩
      replace O_3 := Y0.mk (Kd.R_lower (Kd.R_newB (Kd.R_new' (Kd.R_new' (Kd.R_new' ho0 (Kd.R_lt (Kd.rU O_0.out))) (Kd.R_lt (Kd.rU O_1.out))) (Kd.R_lt (Kd.rU O_2.out))) (bU B_1.out)) (Ym (hU HB.out)))
      replace O_0 := Y0.mk (Kd.R_elder' (Kd.rU O_0.out) (Kd.R_base ho0) hb)
      replace O_1 := Y0.mk (Kd.R_elder' (Kd.rU O_1.out) (Kd.R_base ho0) hb)
      replace O_2 := Y0.mk (Kd.R_elder' (Kd.rU O_2.out) (Kd.R_base ho0) hb)
      replace B_0 := Y0.mk (Y3 (bU B_0.out) hb)
      replace B_1 := Y0.mk (Y3 (bU B_1.out) hb)
      replace B_2 := Y0.mk (Y3 (bU B_2.out) hb)
      replace B_3 := Y0.mk (Y3 (bU B_3.out) hb)
      replace B_4 := Y0.mk (Y3 (bU B_4.out) hb)
      replace HB := Y0.mk (Y7 (hU HB.out) hb)
      (try clear hb)
      (try clear hb2)
      (try clear hk)
      (try clear hi)
      (try clear ho0)
      refine hK.out _ _ ⟨(Y2 B_0.out 0).trans rfl, (Y2 B_0.out 1).trans rfl⟩ (fun hHeld => ?_)
      clear hK K
      refine nmA 47 ?_
      refine puA 3 44 (bs 9 79) ?_
      refine puA 4 48 (bs 9 95) ?_
      refine puA 5 49 (bs 9 127) ?_
      exact norm_ (by simp only [YP, Act.put, List.setIfInBounds_toArray, List.set_cons_zero, List.set_cons_succ]) (hCont (.slice Ao79 t_6.length co79, v_1, g_1) _ ⟨hHeld, (by (with_reducible repeat (first | apply Kd.R_alloc | apply Kd.R_drewN | apply Kd.R_drew)); exact Kd.R_mono O_0.out (fun _ hk => by revert hk; simp only [and_imp]; intros; (repeat' apply And.intro) <;> assumption)), (by (with_reducible repeat (first | apply Kd.R_alloc | apply Kd.R_drewN | apply Kd.R_drew)); exact Kd.R_mono O_1.out (fun _ hk => by revert hk; simp only [and_imp]; intros; (repeat' apply And.intro) <;> assumption)), (by (with_reducible repeat (first | apply Kd.R_alloc | apply Kd.R_drewN | apply Kd.R_drew)); exact Kd.R_mono O_2.out (fun _ hk => by revert hk; simp only [and_imp]; intros; (repeat' apply And.intro) <;> assumption)), (by (with_reducible repeat (first | apply Kd.R_alloc | apply Kd.R_drewN | apply Kd.R_drew)); exact Kd.R_mono O_3.out (fun _ hk => by revert hk; simp only [and_imp]; intros; (repeat' apply And.intro) <;> assumption)), (bU B_0.out), (bU B_1.out), (bU B_2.out), (bU B_3.out), (bU B_4.out), W_0.out, G_0.out, N_0.out, N_6.out, N_1.out, N_7.out, N_2.out, N_5.out, N_3.out, N_4.out, (hU HB.out)⟩)
    ·skip
     refine Y1f ?hg (N := 10) ?hd (cs := #[.int .i64 0, .slice none 0 0]) (t := 24) ?hr ?_; (case hd => rfl); (case hg => rfl); (case hr => first | (go_simp; done) | (go_simp; rfl))
     intro g_1 hg w77 hbox hb
     have n0_ := Y0.mk (Kd.R_below (Kd.rU O_0.out) hb)
     have n1_ := Y0.mk (Kd.R_below (Kd.rU O_1.out) hb)
     have n2_ := Y0.mk (Y3 (bU B_0.out) hb)
     have n3_ := Y0.mk (Y3 (bU B_1.out) hb)
     have n4_ := Y0.mk (Y3 (bU B_2.out) hb)
     have n5_ := Y0.mk (Y3 (bU B_3.out) hb)
     have n6_ := Y0.mk (Y7 (hU HB.out) hb)
     have n7_ := Y0.mk (hbox)
     have n8_ := gE hg HB
     have n9_ := gE hg HB
     have n10_ := gL hg B_0
     have n11_ := gG hg B_0
     have n12_ := gL hg B_1
     have n13_ := gG hg B_1
     have n14_ := gL hg B_2
     have n15_ := gG hg B_2
     have n16_ := gL hg B_3
     have n17_ := gG hg B_3
     clear O_0
     clear O_1
     clear B_0
     clear B_1
     clear B_2
     clear B_3
     clear HB
     have O_0 := n0_
     have O_1 := n1_
     have B_0 := n2_
     have B_1 := n3_
     have B_2 := n4_
     have B_3 := n5_
     have HB := n6_
     have B_4 := n7_
     have W_0 := n8_
     have G_0 := n9_
     have N_0 := n10_
     have N_6 := n11_
     have N_1 := n12_
     have N_7 := n13_
     have N_2 := n14_
     have N_5 := n15_
     have N_3 := n16_
     have N_4 := n17_
     clear n0_ n1_ n2_ n3_ n4_ n5_ n6_ n7_ n8_ n9_ n10_ n11_ n12_ n13_ n14_ n15_ n16_ n17_
     clear hb hbox hg
     refine hK.out _ _ ⟨(Y2 B_0.out 0).trans rfl, (Y2 B_0.out 1).trans rfl⟩ (fun hHeld => ?_)
     clear hK K
     refine nmA 10 ?_
     refine one_ (i := 0) (N := some 45) (bs 9 67) rfl rfl (YQ HT_.out (by kernel_rfl)) (by decide) (fun K hK => ?_)
     refine goes_ Try.func35 (by kernel_rfl) rfl #[] (by rfl) rfl rfl (by (try simp only [List.map_toArray, List.map_cons, List.map_nil]); first | done | rfl | (simp only [List.length_drop, List.length_take]; rfl)) ?_
     with_reducible refine (YG.calls  t_f t_6 _ A29.out).mono ?_
     rintro e w78 ⟨v_0, rfl, ho0, hb⟩
     refine ⟨_, rfl, ?_⟩
     replace O_2 := Y0.mk (Kd.R_lower (Kd.R_newB (Kd.R_new' (Kd.R_new' ho0 (Kd.R_lt (Kd.rU O_0.out))) (Kd.R_lt (Kd.rU O_1.out))) (bU B_1.out)) (Ym (hU HB.out)))
     replace O_0 := Y0.mk (Kd.R_elder' (Kd.rU O_0.out) (Kd.R_base ho0) hb)
     replace O_1 := Y0.mk (Kd.R_elder' (Kd.rU O_1.out) (Kd.R_base ho0) hb)
     replace B_0 := Y0.mk (Y3 (bU B_0.out) hb)
     replace B_1 := Y0.mk (Y3 (bU B_1.out) hb)
     replace B_2 := Y0.mk (Y3 (bU B_2.out) hb)
     replace B_3 := Y0.mk (Y3 (bU B_3.out) hb)
     replace B_4 := Y0.mk (Y3 (bU B_4.out) hb)
     replace HB := Y0.mk (Y7 (hU HB.out) hb)
     (try clear hb)
     (try clear hb2)
     (try clear hk)
     (try clear hi)
     (try clear ho0)
     obtain ⟨Ao79, co79, eo79⟩ := Kd.R_slice O_2.out
     (first | subst eo79 | (injection eo79 with f1_ f2_ f3_; have f4_ := f1_.symm; have f5_ := f3_.symm; clear f1_ f2_ f3_; subst f4_; subst f5_))
     refine hK.out _ _ ⟨(Y2 B_0.out 0).trans rfl, (Y2 B_0.out 1).trans rfl⟩ (fun hHeld => ?_)
     clear hK K
     refine nmA 45 ?_
     refine one_ (i := 2) (N := some 47) (bs 9 71) rfl rfl (YQ HT_.out (by kernel_rfl)) (by decide) (fun K hK => ?_)
     refine goes_ Try.func31 (by kernel_rfl) rfl #[.agg #[.int .i64 t_f, .slice Ao79 t_6.length co79], .agg #[.int .i64 a0_0, .slice A0_1 l0_1.length c0_1]] (by rfl) rfl rfl (by (try simp only [List.map_toArray, List.map_cons, List.map_nil]); first | done | rfl | (simp only [List.length_drop, List.length_take]; rfl)) ?_
     with_reducible refine (Yc.calls k t_f _ _ t_6 a0_0 _ _ l0_1 t_3 t_1 t_i _ ?side1 ?side2 ?side3 ?side4 A30.out).mono ?_
     (case side1 => repeat (first | exact (Kd.R_reads' O_2.out).2.2 | (with_reducible refine Kd.C_alloc ?_ _) | (with_reducible refine Kd.C_drewN ?_ _) | (with_reducible refine Kd.C_drew ?_)))
     (case side2 => exact (Kd.R_reads' O_2.out).2.1)
     (case side3 => repeat (first | exact (Kd.C_below HR0_1.out HB.out) | (with_reducible refine Kd.C_alloc ?_ _) | (with_reducible refine Kd.C_drewN ?_ _) | (with_reducible refine Kd.C_drew ?_)))
     (case side4 => exact HC0_1.out)
     rintro e w80 ⟨v_1, rfl, ho0, hb⟩
     refine ⟨_, rfl, ?_⟩
     replace O_3 := Y0.mk (Kd.R_lower (Kd.R_newB (Kd.R_new' (Kd.R_new' (Kd.R_new' ho0 (Kd.R_lt (Kd.rU O_0.out))) (Kd.R_lt (Kd.rU O_1.out))) (Kd.R_lt (Kd.rU O_2.out))) (bU B_1.out)) (Ym (hU HB.out)))
     replace O_0 := Y0.mk (Kd.R_elder' (Kd.rU O_0.out) (Kd.R_base ho0) hb)
     replace O_1 := Y0.mk (Kd.R_elder' (Kd.rU O_1.out) (Kd.R_base ho0) hb)
     replace O_2 := Y0.mk (Kd.R_elder' (Kd.rU O_2.out) (Kd.R_base ho0) hb)
     replace B_0 := Y0.mk (Y3 (bU B_0.out) hb)
     replace B_1 := Y0.mk (Y3 (bU B_1.out) hb)
     replace B_2 := Y0.mk (Y3 (bU B_2.out) hb)
     replace B_3 := Y0.mk (Y3 (bU B_3.out) hb)
     replace B_4 := Y0.mk (Y3 (bU B_4.out) hb)
     replace HB := Y0.mk (Y7 (hU HB.out) hb)
     (try clear hb)
     (try clear hb2)
     (try clear hk)
     (try clear hi)
     (try clear ho0)
     refine hK.out _ _ ⟨(Y2 B_0.out 0).trans rfl, (Y2 B_0.out 1).trans rfl⟩ (fun hHeld => ?_)
     clear hK K
     refine nmA 47 ?_
     refine puA 3 44 (bs 9 79) ?_
     refine puA 4 48 (bs 9 95) ?_
     refine puA 5 49 (bs 9 127) ?_
     exact norm_ (by simp only [YP, Act.put, List.setIfInBounds_toArray, List.set_cons_zero, List.set_cons_succ]) (hCont (.slice Ao79 t_6.length co79, v_1, g_1) _ ⟨hHeld, (by (with_reducible repeat (first | apply Kd.R_alloc | apply Kd.R_drewN | apply Kd.R_drew)); exact Kd.R_mono O_0.out (fun _ hk => by revert hk; simp only [and_imp]; intros; (repeat' apply And.intro) <;> assumption)), (by (with_reducible repeat (first | apply Kd.R_alloc | apply Kd.R_drewN | apply Kd.R_drew)); exact Kd.R_mono O_1.out (fun _ hk => by revert hk; simp only [and_imp]; intros; (repeat' apply And.intro) <;> assumption)), (by (with_reducible repeat (first | apply Kd.R_alloc | apply Kd.R_drewN | apply Kd.R_drew)); exact Kd.R_mono O_2.out (fun _ hk => by revert hk; simp only [and_imp]; intros; (repeat' apply And.intro) <;> assumption)), (by (with_reducible repeat (first | apply Kd.R_alloc | apply Kd.R_drewN | apply Kd.R_drew)); exact Kd.R_mono O_3.out (fun _ hk => by revert hk; simp only [and_imp]; intros; (repeat' apply And.intro) <;> assumption)), (bU B_0.out), (bU B_1.out), (bU B_2.out), (bU B_3.out), (bU B_4.out), W_0.out, G_0.out, N_0.out, N_6.out, N_1.out, N_7.out, N_2.out, N_5.out, N_3.out, N_4.out, (hU HB.out)⟩)
   rintro ⟨v_0, v_1, g_1⟩ w81 ⟨hS_, h0_, h1_, h2_, h3_, h4_, h5_, h6_, h7_, h8_, h9_, h10_, h11_, h12_, h13_, h14_, h15_, h16_, h17_, h18_, h19_⟩
   have n0_ : Y0 (Kd.R k30 30 w81 w.heap.size (fun k_ => some k_ ≠ (.slice Ao74 t_0.length co74 : Value).ownBlock ∧ some k_ ≠ (v_0 : Value).ownBlock ∧ some k_ ≠ (v_1 : Value).ownBlock ∧ k_ ≠ g_3) (.slice Ao66 t_2.length co66) t_2) := ⟨h0_⟩
   have n1_ : Y0 (Kd.R k30 30 w81 w.heap.size (fun k_ => some k_ ≠ (.slice Ao66 t_2.length co66 : Value).ownBlock ∧ some k_ ≠ (v_0 : Value).ownBlock ∧ some k_ ≠ (v_1 : Value).ownBlock ∧ k_ ≠ g_3) (.slice Ao74 t_0.length co74) t_0) := ⟨h1_⟩
   have n2_ : Y0 (Kd.R k30 30 w81 w.heap.size (fun k_ => some k_ ≠ (.slice Ao66 t_2.length co66 : Value).ownBlock ∧ some k_ ≠ (.slice Ao74 t_0.length co74 : Value).ownBlock ∧ some k_ ≠ (v_1 : Value).ownBlock ∧ k_ ≠ g_3) v_0 t_6) := ⟨h2_⟩
   have n3_ : Y0 (Kd.R k30 30 w81 w.heap.size (fun k_ => some k_ ≠ (.slice Ao66 t_2.length co66 : Value).ownBlock ∧ some k_ ≠ (.slice Ao74 t_0.length co74 : Value).ownBlock ∧ some k_ ≠ (v_0 : Value).ownBlock ∧ k_ ≠ g_3) v_1 t_1) := ⟨h3_⟩
   have n4_ : Y0 (w81.heap[g_4]? = some (.cells #[.int .i64 a0_0, .slice A0_1 l0_1.length c0_1] 24 (0, 0))) := ⟨h4_⟩
   have n5_ : Y0 (w81.heap[g_3]? = some (.cells #[.int .i64 a1_0, .int .i64 a1_1, .int .i64 a1_2, .int .i64 a1_3, .int .i64 a1_4, .bool a1_5, .int .i64 a1_6, .int .i64 a1_7, .int .i64 a1_8, .int .i64 a1_9, .int .i64 a1_10, .int .i64 a1_11, .int .i64 a1_12] 30 (0, 0))) := ⟨h5_⟩
   have n6_ : Y0 (w81.heap[g_5]? = some (.cells #[.int .i64 t_e, .slice Ao66 t_2.length co66] 24 (0, 0))) := ⟨h6_⟩
   have n7_ : Y0 (w81.heap[g_2]? = some (.cells #[.int .i64 t_5, .slice Ao74 t_0.length co74] 24 (0, 0))) := ⟨h7_⟩
   have n8_ : Y0 (w81.heap[g_1]? = some (.cells #[.int .i64 0, .slice none 0 0] 24 (0, 0))) := ⟨h8_⟩
   have n9_ : Y0 (w.heap.size ≤ g_1) := ⟨h9_⟩
   have n10_ : Y0 (w.heap.size ≤ g_1) := ⟨h10_⟩
   have n11_ : Y0 (g_4 ≠ g_1) := ⟨h11_⟩
   have n12_ : Y0 (g_1 ≠ g_4) := ⟨h12_⟩
   have n13_ : Y0 (g_3 ≠ g_1) := ⟨h13_⟩
   have n14_ : Y0 (g_1 ≠ g_3) := ⟨h14_⟩
   have n15_ : Y0 (g_5 ≠ g_1) := ⟨h15_⟩
   have n16_ : Y0 (g_1 ≠ g_5) := ⟨h16_⟩
   have n17_ : Y0 (g_2 ≠ g_1) := ⟨h17_⟩
   have n18_ : Y0 (g_1 ≠ g_2) := ⟨h18_⟩
   have n19_ : Y0 (Below w.heap.size w w81) := ⟨h19_⟩
   clear O_0
   clear O_1
   clear B_0
   clear B_1
   clear B_2
   clear B_3
   clear HB
   clear h0_ h1_ h2_ h3_ h4_ h5_ h6_ h7_ h8_ h9_ h10_ h11_ h12_ h13_ h14_ h15_ h16_ h17_ h18_ h19_
   have O_0 := n0_
   have O_1 := n1_
   have O_2 := n2_
   have O_3 := n3_
   have B_0 := n4_
   have B_1 := n5_
   have B_2 := n6_
   have B_3 := n7_
   have B_4 := n8_
   have W_0 := n9_
   have G_0 := n10_
   have N_0 := n11_
   have N_6 := n12_
   have N_1 := n13_
   have N_7 := n14_
   have N_2 := n15_
   have N_5 := n16_
   have N_3 := n17_
   have N_4 := n18_
   have HB := n19_
   clear n0_ n1_ n2_ n3_ n4_ n5_ n6_ n7_ n8_ n9_ n10_ n11_ n12_ n13_ n14_ n15_ n16_ n17_ n18_ n19_
   have hHeld : w81.cell? ⟨g_4, 0, none⟩ = some (.int .i64 a0_0) ∧ w81.cell? ⟨g_4, 1, none⟩ = some (.slice A0_1 l0_1.length c0_1) := hS_
   obtain ⟨Ao83, co83, eo83⟩ := Kd.R_slice O_3.out
   (first | subst eo83 | (injection eo83 with f1_ f2_ f3_; have f4_ := f1_.symm; have f5_ := f3_.symm; clear f1_ f2_ f3_; subst f4_; subst f5_))
   refine norm_ (a' := ?_) ?_ ?_
   rotate_left
   ·simp only [YP, Act.put, List.setIfInBounds_toArray, List.set_cons_zero, List.set_cons_succ]
    rfl
   refine one_ (i := 7) (N := none) #[true, true, true, true, true, true, true, true, false] rfl rfl (YQ HT_.out (by kernel_rfl)) (by decide) (fun K hK => ?_)
   have hs82 : w81.cell? ⟨g_1, 0, none⟩ = some (.int .i64 0) := (Y2 B_4.out 0).trans rfl
   have hfs82 := Y5 B_4.out 0
   have hns82_0 := N_0.out
   have hns82_1 := N_1.out
   have hns82_2 := N_2.out
   have hns82_3 := N_3.out
   have hms82_0 := N_6.out
   have hms82_1 := N_7.out
   have hms82_2 := N_5.out
   have hms82_3 := N_4.out
   have hs84 : w81.cell? ⟨g_1, 1, none⟩ = some (.slice none 0 0) := (Y2 B_4.out 1).trans rfl
   have hfs84 := Y5 B_4.out 1
   have hns84_0 := N_0.out
   have hns84_1 := N_1.out
   have hns84_2 := N_2.out
   have hns84_3 := N_3.out
   have hms84_0 := N_6.out
   have hms84_1 := N_7.out
   have hms84_2 := N_5.out
   have hms84_3 := N_4.out
   refine skip_ (w1 := ?_) (by rfl) rfl ?_ ?_
   rotate_left
   ·go_simp
    rfl
   refine hK.out _ _ ⟨((Yi (p := ⟨g_1, _, none⟩) N_0.out _).trans (((Yi (p := ⟨g_1, _, none⟩) N_0.out _).trans (hHeld.1)))), ((Yi (p := ⟨g_1, _, none⟩) N_0.out _).trans (((Yi (p := ⟨g_1, _, none⟩) N_0.out _).trans (hHeld.2))))⟩ (fun hHeld => ?_)
   clear hK K
   refine puA 8 11 (bs 9 511) ?_
   refine done_ (Y1g HT_.out (by kernel_rfl)) ?_
   try go_wp2
   have n0_ : Y0 (Kd.R k30 30 ((w81.setCell ⟨g_1, 0, none⟩ (.int .i64 t_3)).setCell ⟨g_1, 1, none⟩ (.slice Ao83 t_1.length co83)) w.heap.size (fun k_ => some k_ ≠ (.slice Ao74 t_0.length co74 : Value).ownBlock ∧ some k_ ≠ (v_0 : Value).ownBlock ∧ some k_ ≠ (.slice Ao83 t_1.length co83 : Value).ownBlock ∧ k_ ≠ g_3) (.slice Ao66 t_2.length co66) t_2) := ⟨by (with_reducible repeat (first | apply Kd.R_alloc | apply Kd.R_drewN | apply Kd.R_drew)); exact Kd.R_mono (rf2 (g := g_1) (Kd.R_types O_0.out B_4.out (by decide)) (fun _ hk => hk.2)) (fun _ hk => by revert hk; simp only [and_imp]; intros; (repeat' apply And.intro) <;> assumption)⟩
   have n1_ : Y0 (Kd.R k30 30 ((w81.setCell ⟨g_1, 0, none⟩ (.int .i64 t_3)).setCell ⟨g_1, 1, none⟩ (.slice Ao83 t_1.length co83)) w.heap.size (fun k_ => some k_ ≠ (.slice Ao66 t_2.length co66 : Value).ownBlock ∧ some k_ ≠ (v_0 : Value).ownBlock ∧ some k_ ≠ (.slice Ao83 t_1.length co83 : Value).ownBlock ∧ k_ ≠ g_3) (.slice Ao74 t_0.length co74) t_0) := ⟨by (with_reducible repeat (first | apply Kd.R_alloc | apply Kd.R_drewN | apply Kd.R_drew)); exact Kd.R_mono (rf2 (g := g_1) (Kd.R_types O_1.out B_4.out (by decide)) (fun _ hk => hk.2)) (fun _ hk => by revert hk; simp only [and_imp]; intros; (repeat' apply And.intro) <;> assumption)⟩
   have n2_ : Y0 (Kd.R k30 30 ((w81.setCell ⟨g_1, 0, none⟩ (.int .i64 t_3)).setCell ⟨g_1, 1, none⟩ (.slice Ao83 t_1.length co83)) w.heap.size (fun k_ => some k_ ≠ (.slice Ao66 t_2.length co66 : Value).ownBlock ∧ some k_ ≠ (.slice Ao74 t_0.length co74 : Value).ownBlock ∧ some k_ ≠ (.slice Ao83 t_1.length co83 : Value).ownBlock ∧ k_ ≠ g_3) v_0 t_6) := ⟨by (with_reducible repeat (first | apply Kd.R_alloc | apply Kd.R_drewN | apply Kd.R_drew)); exact Kd.R_mono (rf2 (g := g_1) (Kd.R_types O_2.out B_4.out (by decide)) (fun _ hk => hk.2)) (fun _ hk => by revert hk; simp only [and_imp]; intros; (repeat' apply And.intro) <;> assumption)⟩
   have n3_ : Y0 (Kd.R k30 30 ((w81.setCell ⟨g_1, 0, none⟩ (.int .i64 t_3)).setCell ⟨g_1, 1, none⟩ (.slice Ao83 t_1.length co83)) w.heap.size (fun k_ => some k_ ≠ (.slice Ao66 t_2.length co66 : Value).ownBlock ∧ some k_ ≠ (.slice Ao74 t_0.length co74 : Value).ownBlock ∧ some k_ ≠ (v_0 : Value).ownBlock ∧ k_ ≠ g_3) (.slice Ao83 t_1.length co83) t_1) := ⟨by (with_reducible repeat (first | apply Kd.R_alloc | apply Kd.R_drewN | apply Kd.R_drew)); exact Kd.R_mono (rf2 (g := g_1) (Kd.R_types O_3.out B_4.out (by decide)) (fun _ hk => hk.2)) (fun _ hk => by revert hk; simp only [and_imp]; intros; (repeat' apply And.intro) <;> assumption)⟩
   have n4_ : Y0 (((w81.setCell ⟨g_1, 0, none⟩ (.int .i64 t_3)).setCell ⟨g_1, 1, none⟩ (.slice Ao83 t_1.length co83)).heap[g_4]? = some (.cells #[.int .i64 a0_0, .slice A0_1 l0_1.length c0_1] 24 (0, 0))) := ⟨by (with_reducible repeat (first | refine Y8 ?_ _ | refine Y6 ?_ | refine Y4 ?_ _)); refine (Below.heap_setCell _ ⟨_, _, none⟩ _ _ N_0.out).trans ?_; (with_reducible repeat (first | refine Y8 ?_ _ | refine Y6 ?_ | refine Y4 ?_ _)); refine (Below.heap_setCell _ ⟨_, _, none⟩ _ _ N_0.out).trans ?_; (with_reducible repeat (first | refine Y8 ?_ _ | refine Y6 ?_ | refine Y4 ?_ _)); exact B_0.out⟩
   have n5_ : Y0 (((w81.setCell ⟨g_1, 0, none⟩ (.int .i64 t_3)).setCell ⟨g_1, 1, none⟩ (.slice Ao83 t_1.length co83)).heap[g_3]? = some (.cells #[.int .i64 a1_0, .int .i64 a1_1, .int .i64 a1_2, .int .i64 a1_3, .int .i64 a1_4, .bool a1_5, .int .i64 a1_6, .int .i64 a1_7, .int .i64 a1_8, .int .i64 a1_9, .int .i64 a1_10, .int .i64 a1_11, .int .i64 a1_12] 30 (0, 0))) := ⟨by (with_reducible repeat (first | refine Y8 ?_ _ | refine Y6 ?_ | refine Y4 ?_ _)); refine (Below.heap_setCell _ ⟨_, _, none⟩ _ _ N_1.out).trans ?_; (with_reducible repeat (first | refine Y8 ?_ _ | refine Y6 ?_ | refine Y4 ?_ _)); refine (Below.heap_setCell _ ⟨_, _, none⟩ _ _ N_1.out).trans ?_; (with_reducible repeat (first | refine Y8 ?_ _ | refine Y6 ?_ | refine Y4 ?_ _)); exact B_1.out⟩
   have n6_ : Y0 (((w81.setCell ⟨g_1, 0, none⟩ (.int .i64 t_3)).setCell ⟨g_1, 1, none⟩ (.slice Ao83 t_1.length co83)).heap[g_5]? = some (.cells #[.int .i64 t_e, .slice Ao66 t_2.length co66] 24 (0, 0))) := ⟨by (with_reducible repeat (first | refine Y8 ?_ _ | refine Y6 ?_ | refine Y4 ?_ _)); refine (Below.heap_setCell _ ⟨_, _, none⟩ _ _ N_2.out).trans ?_; (with_reducible repeat (first | refine Y8 ?_ _ | refine Y6 ?_ | refine Y4 ?_ _)); refine (Below.heap_setCell _ ⟨_, _, none⟩ _ _ N_2.out).trans ?_; (with_reducible repeat (first | refine Y8 ?_ _ | refine Y6 ?_ | refine Y4 ?_ _)); exact B_2.out⟩
   have n7_ : Y0 (((w81.setCell ⟨g_1, 0, none⟩ (.int .i64 t_3)).setCell ⟨g_1, 1, none⟩ (.slice Ao83 t_1.length co83)).heap[g_2]? = some (.cells #[.int .i64 t_5, .slice Ao74 t_0.length co74] 24 (0, 0))) := ⟨by (with_reducible repeat (first | refine Y8 ?_ _ | refine Y6 ?_ | refine Y4 ?_ _)); refine (Below.heap_setCell _ ⟨_, _, none⟩ _ _ N_3.out).trans ?_; (with_reducible repeat (first | refine Y8 ?_ _ | refine Y6 ?_ | refine Y4 ?_ _)); refine (Below.heap_setCell _ ⟨_, _, none⟩ _ _ N_3.out).trans ?_; (with_reducible repeat (first | refine Y8 ?_ _ | refine Y6 ?_ | refine Y4 ?_ _)); exact B_3.out⟩
   have n8_ : Y0 (((w81.setCell ⟨g_1, 0, none⟩ (.int .i64 t_3)).setCell ⟨g_1, 1, none⟩ (.slice Ao83 t_1.length co83)).heap[g_1]? = some (.cells #[.int .i64 t_3, .slice Ao83 t_1.length co83] 24 (0, 0))) := ⟨by (with_reducible repeat (first | refine Y8 ?_ _ | refine Y6 ?_ | refine Y4 ?_ _)); refine Yq (cs := #[.int .i64 t_3, .slice none 0 0]) ?_ 1 _ rfl; (with_reducible repeat (first | refine Y8 ?_ _ | refine Y6 ?_ | refine Y4 ?_ _)); refine Yq (cs := #[.int .i64 0, .slice none 0 0]) ?_ 0 _ rfl; (with_reducible repeat (first | refine Y8 ?_ _ | refine Y6 ?_ | refine Y4 ?_ _)); exact B_4.out⟩
   have n9_ : Y0 (Below w.heap.size w ((w81.setCell ⟨g_1, 0, none⟩ (.int .i64 t_3)).setCell ⟨g_1, 1, none⟩ (.slice Ao83 t_1.length co83))) := ⟨hU HB.out⟩
   (try clear O_0)
   (try clear O_1)
   (try clear O_2)
   (try clear O_3)
   (try clear B_0)
   (try clear B_1)
   (try clear B_2)
   (try clear B_3)
   (try clear B_4)
   (try clear HB)
   generalize ((w81.setCell ⟨g_1, 0, none⟩ (.int .i64 t_3)).setCell ⟨g_1, 1, none⟩ (.slice Ao83 t_1.length co83)) = w85 at n0_ n1_ n2_ n3_ n4_ n5_ n6_ n7_ n8_ n9_ ⊢
   have O_0 := n0_
   have O_1 := n1_
   have O_2 := n2_
   have O_3 := n3_
   have B_0 := n4_
   have B_1 := n5_
   have B_2 := n6_
   have B_3 := n7_
   have B_4 := n8_
   have HB := n9_
   clear n0_ n1_ n2_ n3_ n4_ n5_ n6_ n7_ n8_ n9_
   have n0_ := Y0.mk (Kd.R_drew O_0.out)
   have n1_ := Y0.mk (Kd.R_drew O_1.out)
   have n2_ := Y0.mk (Kd.R_drew O_2.out)
   have n3_ := Y0.mk (Kd.R_drew O_3.out)
   have n4_ := Y0.mk (Y6 B_0.out)
   have n5_ := Y0.mk (Y6 B_1.out)
   have n6_ := Y0.mk (Y6 B_2.out)
   have n7_ := Y0.mk (Y6 B_3.out)
   have n8_ := Y0.mk (Y6 B_4.out)
   have n9_ := Y0.mk (YB HB.out)
   clear O_0
   clear O_1
   clear O_2
   clear O_3
   clear B_0
   clear B_1
   clear B_2
   clear B_3
   clear B_4
   clear HB
   have O_0 := n0_
   have O_1 := n1_
   have O_2 := n2_
   have O_3 := n3_
   have B_0 := n4_
   have B_1 := n5_
   have B_2 := n6_
   have B_3 := n7_
   have B_4 := n8_
   have HB := n9_
   clear n0_ n1_ n2_ n3_ n4_ n5_ n6_ n7_ n8_ n9_
   refine Y1i (n := 8) (S := fun w' => w'.cell? ⟨g_4, 0, none⟩ = some (.int .i64 a0_0) ∧ w'.cell? ⟨g_4, 1, none⟩ = some (.slice A0_1 l0_1.length c0_1)) (ds := []) #[false, false, false, false, false, false, false, false] (by kernel_rfl) rfl rfl ⟨(Y2 B_0.out 0).trans rfl, (Y2 B_0.out 1).trans rfl⟩ (fun hHeld => ?_); refine YY Yk.tab11 Yk.bits11 (fun HT_ HW_ => ?_)
   generalize w85.drew = w86 at O_0 O_1 O_2 O_3 B_0 B_1 B_2 B_3 B_4 HB hHeld ⊢
   refine tkA 1 52 (bs 8 2) hHeld ?_
   refine one_ (i := 0) (N := some 51) (bs 8 3) rfl rfl (YQ HT_.out (by kernel_rfl)) (by decide) (fun K hK => ?_)
   refine goes_ Try.func35 (by kernel_rfl) rfl #[] (by rfl) rfl rfl (by (try simp only [List.map_toArray, List.map_cons, List.map_nil]); first | done | rfl | (simp only [List.length_drop, List.length_take]; rfl)) ?_
   with_reducible refine (YG.calls  t_m t_n _ A31.out).mono ?_
   rintro e w87 ⟨v_2, rfl, ho0, hb⟩
   refine ⟨_, rfl, ?_⟩
   replace O_4 := Y0.mk (Kd.R_lower (Kd.R_newB (Kd.R_new' (Kd.R_new' (Kd.R_new' (Kd.R_new' ho0 (Kd.R_lt (Kd.rU O_0.out))) (Kd.R_lt (Kd.rU O_1.out))) (Kd.R_lt (Kd.rU O_2.out))) (Kd.R_lt (Kd.rU O_3.out))) (bU B_1.out)) (Ym (hU HB.out)))
   replace O_0 := Y0.mk (Kd.R_elder' (Kd.rU O_0.out) (Kd.R_base ho0) hb)
   replace O_1 := Y0.mk (Kd.R_elder' (Kd.rU O_1.out) (Kd.R_base ho0) hb)
   replace O_2 := Y0.mk (Kd.R_elder' (Kd.rU O_2.out) (Kd.R_base ho0) hb)
   replace O_3 := Y0.mk (Kd.R_elder' (Kd.rU O_3.out) (Kd.R_base ho0) hb)
   replace B_0 := Y0.mk (Y3 (bU B_0.out) hb)
   replace B_1 := Y0.mk (Y3 (bU B_1.out) hb)
   replace B_2 := Y0.mk (Y3 (bU B_2.out) hb)
   replace B_3 := Y0.mk (Y3 (bU B_3.out) hb)
   replace B_4 := Y0.mk (Y3 (bU B_4.out) hb)
   replace HB := Y0.mk (Y7 (hU HB.out) hb)
   (try clear hb)
   (try clear hb2)
   (try clear hk)
   (try clear hi)
   (try clear ho0)
   obtain ⟨Ao88, co88, eo88⟩ := Kd.R_slice O_4.out
   (first | subst eo88 | (injection eo88 with f1_ f2_ f3_; have f4_ := f1_.symm; have f5_ := f3_.symm; clear f1_ f2_ f3_; subst f4_; subst f5_))
   refine hK.out _ _ ⟨(Y2 B_0.out 0).trans rfl, (Y2 B_0.out 1).trans rfl⟩ (fun hHeld => ?_)
   clear hK K
   refine nmA 51 ?_
   refine one_ (i := 2) (N := some 53) (bs 8 7) rfl rfl (YQ HT_.out (by kernel_rfl)) (by decide) (fun K hK => ?_)
   refine goes_ Try.func36 (by kernel_rfl) rfl #[.agg #[.int .i64 t_m, .slice Ao88 t_n.length co88], .agg #[.int .i64 a0_0, .slice A0_1 l0_1.length c0_1]] (by rfl) rfl rfl (by (try simp only [List.map_toArray, List.map_cons, List.map_nil]); first | done | rfl | (simp only [List.length_drop, List.length_take]; rfl)) ?_
   with_reducible refine (Yz.calls k t_m _ _ t_n a0_0 _ _ l0_1 t_s t_u _ ?side1 ?side2 ?side3 ?side4 A32.out).mono ?_
   (case side1 => repeat (first | exact (Kd.R_reads' O_4.out).2.2 | (with_reducible refine Kd.C_alloc ?_ _) | (with_reducible refine Kd.C_drewN ?_ _) | (with_reducible refine Kd.C_drew ?_)))
   (case side2 => exact (Kd.R_reads' O_4.out).2.1)
   (case side3 => repeat (first | exact (Kd.C_below HR0_1.out HB.out) | (with_reducible refine Kd.C_alloc ?_ _) | (with_reducible refine Kd.C_drewN ?_ _) | (with_reducible refine Kd.C_drew ?_)))
   (case side4 => exact HC0_1.out)
   rintro e w89 ⟨v_5, rfl, ho0, hb⟩
   refine ⟨_, rfl, ?_⟩
   replace O_5 := Y0.mk (Kd.R_lower (Kd.R_newB (Kd.R_new' (Kd.R_new' (Kd.R_new' (Kd.R_new' (Kd.R_new' ho0 (Kd.R_lt (Kd.rU O_0.out))) (Kd.R_lt (Kd.rU O_1.out))) (Kd.R_lt (Kd.rU O_2.out))) (Kd.R_lt (Kd.rU O_3.out))) (Kd.R_lt (Kd.rU O_4.out))) (bU B_1.out)) (Ym (hU HB.out)))
   replace O_0 := Y0.mk (Kd.R_elder' (Kd.rU O_0.out) (Kd.R_base ho0) hb)
   replace O_1 := Y0.mk (Kd.R_elder' (Kd.rU O_1.out) (Kd.R_base ho0) hb)
   replace O_2 := Y0.mk (Kd.R_elder' (Kd.rU O_2.out) (Kd.R_base ho0) hb)
   replace O_3 := Y0.mk (Kd.R_elder' (Kd.rU O_3.out) (Kd.R_base ho0) hb)
   replace O_4 := Y0.mk (Kd.R_elder' (Kd.rU O_4.out) (Kd.R_base ho0) hb)
   replace B_0 := Y0.mk (Y3 (bU B_0.out) hb)
   replace B_1 := Y0.mk (Y3 (bU B_1.out) hb)
   replace B_2 := Y0.mk (Y3 (bU B_2.out) hb)
   replace B_3 := Y0.mk (Y3 (bU B_3.out) hb)
   replace B_4 := Y0.mk (Y3 (bU B_4.out) hb)
   replace HB := Y0.mk (Y7 (hU HB.out) hb)
   (try clear hb)
   (try clear hb2)
   (try clear hk)
   (try clear hi)
   (try clear ho0)
   refine hK.out _ _ ⟨(Y2 B_0.out 0).trans rfl, (Y2 B_0.out 1).trans rfl⟩ (fun hHeld => ?_)
   clear hK K
   refine nmA 53 ?_
   refine puA 3 50 (bs 8 15) ?_
   refine puA 4 54 (bs 8 31) ?_
   refine puA 5 55 (bs 8 63) ?_
   refine puA 6 12 (bs 8 127) ?_
   refine puA 7 13 (bs 8 255) ?_
   refine done_ (Y1g HT_.out (by kernel_rfl)) ?_
   have hnb90 := N_0.out
   have hnc90 := N_6.out
   have z_f := Y2 B_0.out
   have f_0 := Y5 B_0.out
   try go_wp2_with (first | ((with_reducible refine Yd (f := 23) rfl ?_); refine goesA (some 58) Try.func23 #[.agg #[.int .i64 a0_0, .slice A0_1 l0_1.length c0_1], .int .i64 (-1), .int .i64 0] ?_; (with_reducible refine (Y15.calls a0_0 _ _ l0_1 (-1) 0 t_o t_p t_t _ ?side1 ?side2 A33.out).mono ?_); (case side1 => repeat (first | exact (Kd.C_below HR0_1.out HB.out) | (with_reducible refine Kd.C_alloc ?_ _) | (with_reducible refine Kd.C_drewN ?_ _) | (with_reducible refine Kd.C_drew ?_))); (case side2 => exact HC0_1.out); rintro e w92 ⟨v_4, v_7, rfl, ho0, ho1, hb⟩; refine ⟨_, rfl, ?_⟩; replace O_0 := Y0.mk (Kd.R_below (Kd.rU O_0.out) hb); replace O_1 := Y0.mk (Kd.R_below (Kd.rU O_1.out) hb); replace O_2 := Y0.mk (Kd.R_below (Kd.rU O_2.out) hb); replace O_3 := Y0.mk (Kd.R_below (Kd.rU O_3.out) hb); replace O_4 := Y0.mk (Kd.R_below (Kd.rU O_4.out) hb); replace O_5 := Y0.mk (Kd.R_below (Kd.rU O_5.out) hb); replace O_7 := Y0.mk (Kd.R_lower ho0 (Ym (hU HB.out))); replace O_6 := Y0.mk (Kd.R_lower ho1 (Ym (hU HB.out))); replace B_0 := Y0.mk (Y3 (bU B_0.out) hb); replace B_1 := Y0.mk (Y3 (bU B_1.out) hb); replace B_2 := Y0.mk (Y3 (bU B_2.out) hb); replace B_3 := Y0.mk (Y3 (bU B_3.out) hb); replace B_4 := Y0.mk (Y3 (bU B_4.out) hb); replace HB := Y0.mk (Y7 (hU HB.out) hb); (try clear hb); (try clear hb2); (try clear hk); (try clear hi); (try clear ho0); (try clear ho1); have z_h := Y2 B_0.out; have f_2 := Y5 B_0.out; have hnb94 := N_1.out; have hnc94 := N_7.out; have z_4 := Y2 B_1.out; have f_d := Y5 B_1.out) | ((with_reducible refine Yd (f := 27) rfl ?_); refine goesA (some 66) Try.func27 #[.agg #[.int .i64 a0_0, .slice A0_1 l0_1.length c0_1], .int .i64 0, .agg #[.int .i64 a1_3, .int .i64 a1_4]] ?_; (with_reducible refine (Yy.calls a0_0 _ _ l0_1 0 a1_3 a1_4 t_a t_7 t_b t_c t_8 t_d t_9 false t_w _ ?side1 ?side2 A34.out).mono ?_); (case side1 => repeat (first | exact (Kd.C_below HR0_1.out HB.out) | (with_reducible refine Kd.C_alloc ?_ _) | (with_reducible refine Kd.C_drewN ?_ _) | (with_reducible refine Kd.C_drew ?_))); (case side2 => exact HC0_1.out); rintro e w96 ⟨rfl, hb⟩; refine ⟨_, rfl, ?_⟩; replace O_0 := Y0.mk (Kd.R_below (Kd.rU O_0.out) hb); replace O_1 := Y0.mk (Kd.R_below (Kd.rU O_1.out) hb); replace O_2 := Y0.mk (Kd.R_below (Kd.rU O_2.out) hb); replace O_3 := Y0.mk (Kd.R_below (Kd.rU O_3.out) hb); replace O_4 := Y0.mk (Kd.R_below (Kd.rU O_4.out) hb); replace O_5 := Y0.mk (Kd.R_below (Kd.rU O_5.out) hb); replace O_7 := Y0.mk (Kd.R_below (Kd.rU O_7.out) hb); replace O_6 := Y0.mk (Kd.R_below (Kd.rU O_6.out) hb); replace B_0 := Y0.mk (Y3 (bU B_0.out) hb); replace B_1 := Y0.mk (Y3 (bU B_1.out) hb); replace B_2 := Y0.mk (Y3 (bU B_2.out) hb); replace B_3 := Y0.mk (Y3 (bU B_3.out) hb); replace B_4 := Y0.mk (Y3 (bU B_4.out) hb); replace HB := Y0.mk (Y7 (hU HB.out) hb); (try clear hb); (try clear hb2); (try clear hk); (try clear hi)) | ((with_reducible refine Yf (N := 17) rfl ?_); (try (refine YZ (by rfl) ?_; dsimp only)); refine Yg ?hg (N := 17) ?hd (cs := #[.int .i64 0, .int .i64 0, .int .i64 0, .int .i64 0, .int .i64 0, .int .i64 0, .int .i64 0]) (t := 28) ?hr ?_; (case hd => rfl); (case hg => rfl); (case hr => first | (go_simp; done) | (go_simp; rfl)); intro g_0 hg w97 hbox hb; have n0_ := Y0.mk (Kd.R_below (Kd.rU O_0.out) hb); have n1_ := Y0.mk (Kd.R_below (Kd.rU O_1.out) hb); have n2_ := Y0.mk (Kd.R_below (Kd.rU O_2.out) hb); have n3_ := Y0.mk (Kd.R_below (Kd.rU O_3.out) hb); have n4_ := Y0.mk (Kd.R_below (Kd.rU O_4.out) hb); have n5_ := Y0.mk (Kd.R_below (Kd.rU O_5.out) hb); have n6_ := Y0.mk (Kd.R_below (Kd.R_elderB (Kd.rU O_7.out) g_0 (Nat.le_of_eq hg.symm)) hb); have n7_ := Y0.mk (Kd.R_below (Kd.rU O_6.out) hb); have n8_ := Y0.mk (Y3 (bU B_0.out) hb); have n9_ := Y0.mk (Y3 (bU B_1.out) hb); have n10_ := Y0.mk (Y3 (bU B_2.out) hb); have n11_ := Y0.mk (Y3 (bU B_3.out) hb); have n12_ := Y0.mk (Y3 (bU B_4.out) hb); have n13_ := Y0.mk (Y7 (hU HB.out) hb); have n14_ := Y0.mk (hbox); have n15_ := gE hg HB; have n16_ := gE hg HB; have n17_ := gL hg B_0; have n18_ := gG hg B_0; have n19_ := gL hg B_1; have n20_ := gG hg B_1; have n21_ := gL hg B_2; have n22_ := gG hg B_2; have n23_ := gL hg B_3; have n24_ := gG hg B_3; have n25_ := gL hg B_4; have n26_ := gG hg B_4; clear O_0; clear O_1; clear O_2; clear O_3; clear O_4; clear O_5; clear O_7; clear O_6; clear B_0; clear B_1; clear B_2; clear B_3; clear B_4; clear HB; have O_0 := n0_; have O_1 := n1_; have O_2 := n2_; have O_3 := n3_; have O_4 := n4_; have O_5 := n5_; have O_7 := n6_; have O_6 := n7_; have B_0 := n8_; have B_1 := n9_; have B_2 := n10_; have B_3 := n11_; have B_4 := n12_; have HB := n13_; have B_5 := n14_; have W_5 := n15_; have G_3 := n16_; have N_j := n17_; have N_n := n18_; have N_i := n19_; have N_l := n20_; have N_f := n21_; have N_r := n22_; have N_h := n23_; have N_p := n24_; have N_g := n25_; have N_k := n26_; clear n0_ n1_ n2_ n3_ n4_ n5_ n6_ n7_ n8_ n9_ n10_ n11_ n12_ n13_ n14_ n15_ n16_ n17_ n18_ n19_ n20_ n21_ n22_ n23_ n24_ n25_ n26_; clear hb hbox hg; have hnb98 := N_n.out; have hnc98 := N_j.out; have hnb99 := N_l.out; have hnc99 := N_i.out; have hnb100 := N_r.out; have hnc100 := N_f.out; have hnb101 := N_p.out; have hnc101 := N_h.out; have hnb102 := N_k.out; have hnc102 := N_g.out; have z_i := Y2 B_5.out; have f_g := Y5 B_5.out; have hnb104 := N_2.out; have hnc104 := N_5.out; have z_7 := Y2 B_2.out; have f_6 := Y5 B_2.out; have hnb106 := N_3.out; have hnc106 := N_4.out; have z_1 := Y2 B_3.out; have f_f := Y5 B_3.out; have z_e := Y2 B_4.out; have f_8 := Y5 B_4.out; obtain ⟨Ao109, co109, eo109⟩ := Kd.R_slice O_5.out; subst eo109; obtain ⟨Ao110, co110, eo110⟩ := Kd.R_slice O_7.out; subst eo110; obtain ⟨Ao111, co111, eo111⟩ := Kd.R_slice O_6.out; subst eo111) | (go_at_call 18; (with_reducible refine (Yb.calls k  t_j _ A49.out).mono ?_); rintro e w112 ⟨rfl, hb⟩; replace O_0 := Y0.mk (Kd.R_below (by (with_reducible repeat (first | apply Kd.R_alloc | apply Kd.R_drewN | apply Kd.R_drew)); exact (Kd.R_mono (rf7 (g := g_0) (Kd.R_types O_0.out B_5.out (by decide)) (fun _ hk => hk.2)) (fun _ h_ => h_.1))) hb); replace O_1 := Y0.mk (Kd.R_below (by (with_reducible repeat (first | apply Kd.R_alloc | apply Kd.R_drewN | apply Kd.R_drew)); exact (Kd.R_mono (rf7 (g := g_0) (Kd.R_types O_1.out B_5.out (by decide)) (fun _ hk => hk.2)) (fun _ h_ => h_.1))) hb); replace O_2 := Y0.mk (Kd.R_below (by (with_reducible repeat (first | apply Kd.R_alloc | apply Kd.R_drewN | apply Kd.R_drew)); exact (Kd.R_mono (rf7 (g := g_0) (Kd.R_types O_2.out B_5.out (by decide)) (fun _ hk => hk.2)) (fun _ h_ => h_.1))) hb); replace O_3 := Y0.mk (Kd.R_below (by (with_reducible repeat (first | apply Kd.R_alloc | apply Kd.R_drewN | apply Kd.R_drew)); exact (Kd.R_mono (rf7 (g := g_0) (Kd.R_types O_3.out B_5.out (by decide)) (fun _ hk => hk.2)) (fun _ h_ => h_.1))) hb); replace O_4 := Y0.mk (Kd.R_below (by (with_reducible repeat (first | apply Kd.R_alloc | apply Kd.R_drewN | apply Kd.R_drew)); exact (Kd.R_mono (rf7 (g := g_0) (Kd.R_types O_4.out B_5.out (by decide)) (fun _ hk => hk.2)) (fun _ h_ => h_.1))) hb); replace O_5 := Y0.mk (Kd.R_below (by (with_reducible repeat (first | apply Kd.R_alloc | apply Kd.R_drewN | apply Kd.R_drew)); exact (Kd.R_mono (rf7 (g := g_0) (Kd.R_types O_5.out B_5.out (by decide)) (fun _ hk => hk.2)) (fun _ h_ => h_.1))) hb); replace O_7 := Y0.mk (Kd.R_below (by (with_reducible repeat (first | apply Kd.R_alloc | apply Kd.R_drewN | apply Kd.R_drew)); exact (Kd.R_mono (rf7 (g := g_0) (Kd.R_mono O_7.out (fun k_ hk => (⟨hk, hk.2⟩ : _ ∧ k_ ≠ g_0))) (fun _ hk => hk.2)) (fun _ h_ => h_.1))) hb); replace O_6 := Y0.mk (Kd.R_below (by (with_reducible repeat (first | apply Kd.R_alloc | apply Kd.R_drewN | apply Kd.R_drew)); exact (Kd.R_mono (rf7 (g := g_0) (Kd.R_types O_6.out B_5.out (by decide)) (fun _ hk => hk.2)) (fun _ h_ => h_.1))) hb); replace B_0 := Y0.mk (Y3 (g := g_4) (o := .cells #[.int .i64 a0_0, .slice A0_1 l0_1.length c0_1] 24 (0, 0)) (by (iterate 7 ((with_reducible repeat (first | refine Y8 ?_ _ | refine Y6 ?_ | refine Y4 ?_ _)); refine (Below.heap_setCell _ ⟨_, _, none⟩ _ _ N_j.out).trans ?_)); (with_reducible repeat (first | refine Y8 ?_ _ | refine Y6 ?_ | refine Y4 ?_ _)); exact B_0.out) hb); replace B_1 := Y0.mk (Y3 (g := g_3) (o := .cells #[.int .i64 a1_0, .int .i64 a1_1, .int .i64 a1_2, .int .i64 a1_3, .int .i64 a1_4, .bool a1_5, .int .i64 a1_6, .int .i64 a1_7, .int .i64 a1_8, .int .i64 a1_9, .int .i64 a1_10, .int .i64 a1_11, .int .i64 a1_12] 30 (0, 0)) (by (iterate 7 ((with_reducible repeat (first | refine Y8 ?_ _ | refine Y6 ?_ | refine Y4 ?_ _)); refine (Below.heap_setCell _ ⟨_, _, none⟩ _ _ N_i.out).trans ?_)); (with_reducible repeat (first | refine Y8 ?_ _ | refine Y6 ?_ | refine Y4 ?_ _)); exact B_1.out) hb); replace B_2 := Y0.mk (Y3 (g := g_5) (o := .cells #[.int .i64 t_e, .slice Ao66 t_2.length co66] 24 (0, 0)) (by (iterate 7 ((with_reducible repeat (first | refine Y8 ?_ _ | refine Y6 ?_ | refine Y4 ?_ _)); refine (Below.heap_setCell _ ⟨_, _, none⟩ _ _ N_f.out).trans ?_)); (with_reducible repeat (first | refine Y8 ?_ _ | refine Y6 ?_ | refine Y4 ?_ _)); exact B_2.out) hb); replace B_3 := Y0.mk (Y3 (g := g_2) (o := .cells #[.int .i64 t_5, .slice Ao74 t_0.length co74] 24 (0, 0)) (by (iterate 7 ((with_reducible repeat (first | refine Y8 ?_ _ | refine Y6 ?_ | refine Y4 ?_ _)); refine (Below.heap_setCell _ ⟨_, _, none⟩ _ _ N_h.out).trans ?_)); (with_reducible repeat (first | refine Y8 ?_ _ | refine Y6 ?_ | refine Y4 ?_ _)); exact B_3.out) hb); replace B_4 := Y0.mk (Y3 (g := g_1) (o := .cells #[.int .i64 t_3, .slice Ao83 t_1.length co83] 24 (0, 0)) (by (iterate 7 ((with_reducible repeat (first | refine Y8 ?_ _ | refine Y6 ?_ | refine Y4 ?_ _)); refine (Below.heap_setCell _ ⟨_, _, none⟩ _ _ N_g.out).trans ?_)); (with_reducible repeat (first | refine Y8 ?_ _ | refine Y6 ?_ | refine Y4 ?_ _)); exact B_4.out) hb); replace B_5 := Y0.mk (Y3 (g := g_0) (o := .cells #[.int .i64 t_a, .int .i64 t_7, .int .i64 t_b, .int .i64 t_c, .int .i64 t_8, .int .i64 t_d, .int .i64 t_9] 28 (0, 0)) (by (with_reducible repeat (first | refine Y8 ?_ _ | refine Y6 ?_ | refine Y4 ?_ _)); apply Yq; (iterate 6 ((with_reducible repeat (first | refine Y8 ?_ _ | refine Y6 ?_ | refine Y4 ?_ _)); apply Y1r)); (with_reducible repeat (first | refine Y8 ?_ _ | refine Y6 ?_ | refine Y4 ?_ _)); exact B_5.out; simp only [List.setIfInBounds_toArray, List.set_cons_zero, List.set_cons_succ]) hb); replace HB := Y0.mk (Y7 (hU HB.out) hb); (try clear hb); (try clear hb2); (try clear hk); (try clear hi)))
   go_ret
   exact ⟨reT, hU HB.out⟩
end Go.Proofs.Yteopkkoblbmggaa.P
end

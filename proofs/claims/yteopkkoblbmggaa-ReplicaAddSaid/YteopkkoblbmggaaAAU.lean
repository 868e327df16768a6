/- Texts of this claim in one: VP33; no condition. -/
import Derived.Test.YteopkkoblbmggaaAAC
import Derived.Test.YteopkkoblbmggaaAAE
import Derived.Test.YteopkkoblbmggaaAAQ
import Derived.Test.YteopkkoblbmggaaAAR
import Derived.Test.YteopkkoblbmggaaAAS
import Derived.Test.YteopkkoblbmggaaAAT
section
namespace Go.Proofs.Yteopkkoblbmggaa.P
open Go.RowKit Go.Proofs.YteopkkoblbmggaaW.PrintWords Go.Proofs.YteopkkoblbmggaaW.PrintLast Go.Proofs.YteopkkoblbmggaaW.PrintMore
attribute [local go_sem] YW YY Y14 Y15 YN YO YX YZ
set_option linter.unusedVariables false
set_option linter.unusedSimpArgs false
def Yk.j0 : Nat → Bool → Int → List (S30) → Int → Int → Int → Int → Int → Bool → Int → Int → Int → Int → Int → Int → Int → Option (Int × (List (S30)) × Int)
 | 0, _, _, _, _, _, _, _, _, _, _, _, _, _, _, _, _ => none
 | k + 1, x42, x_e, x_0, x_a, x_c, x_5, x_7, x_b, x_3, x_6, x_8, x_4, x_2, x_9, x_d, x_1 => if x42 = true then (some (0, ([] : List (S30)), 6)) else (if (x_0.length : Int) ≥ 512 then (some (0, ([] : List (S30)), 3)) else ((Yh.f k x_0 x_a x_c x_5 x_7 x_b x_3 x_6 x_8 x_4 x_2 x_9 x_d x_1).bind fun t_3 => (some (x_e, t_3, 0))))
def Yk.f (k : Nat) (a0_0 : Int) (l0_1 : List (S30)) (a1_0 : Int) (a1_1 : Int) (a1_2 : Int) (a1_3 : Int) (a1_4 : Int) (a1_5 : Bool) (a1_6 : Int) (a1_7 : Int) (a1_8 : Int) (a1_9 : Int) (a1_10 : Int) (a1_11 : Int) (a1_12 : Int) : Option (Int × (List (S30)) × Int) := (Y7.f k a0_0 l0_1).bind fun t_0 => (if t_0 = 0 then ((Ye.f k a1_0 a1_1 a1_2 a1_3 a1_4 a1_5 a1_6 a1_7 a1_8 a1_9 a1_10 a1_11 a1_12).bind fun t_1 => (if t_1 = 0 then ((Yr.f k l0_1 a1_0 a1_1 a1_2 a1_3 a1_4 a1_5 a1_6 a1_7 a1_8 a1_9 a1_10 a1_11 a1_12).bind fun t_7 => (if t_7 = true then ((Y11.f a0_0 l0_1).bind fun b_0 => (some (b_0.1, b_0.2, 0))) else ((Yn.f k l0_1 a1_0 a1_1).bind fun t_4 => (if t_4 = true then (some (0, ([] : List (S30)), 7)) else ((Yg.f k l0_1 a1_0 a1_1 a1_2 a1_3 a1_4 a1_5 a1_6 a1_7 a1_8 a1_9 a1_10 a1_11 a1_12).bind fun t_5 => (if t_5 = true then (Yk.j0 k false a0_0 l0_1 a1_0 a1_1 a1_2 a1_3 a1_4 a1_5 a1_6 a1_7 a1_8 a1_9 a1_10 a1_11 a1_12) else ((YM.f a1_0 a1_1 a1_2 a1_3 a1_4 a1_5 a1_6 a1_7 a1_8 a1_9 a1_10 a1_11 a1_12 a1_0 a1_1 a1_2 a1_3 a1_4 a1_5 a1_6 a1_7 a1_8 a1_9 a1_10 a1_11 a1_12).bind fun t_2 => (Yk.j0 k (!t_2) a0_0 l0_1 a1_0 a1_1 a1_2 a1_3 a1_4 a1_5 a1_6 a1_7 a1_8 a1_9 a1_10 a1_11 a1_12)))))))) else (some (0, ([] : List (S30)), t_1)))) else (some (0, ([] : List (S30)), t_0)))
theorem Yk.mono_l : ∀ k, (∀ y0 y1 y2 y3 y4 y5 y6 y7 y8 y9 y10 y11 y12 y13 y14 y15, LeO (Yk.j0 k y0 y1 y2 y3 y4 y5 y6 y7 y8 y9 y10 y11 y12 y13 y14 y15) (Yk.j0 (k + 1) y0 y1 y2 y3 y4 y5 y6 y7 y8 y9 y10 y11 y12 y13 y14 y15))
 | 0 => fun _ _ _ _ _ _ _ _ _ _ _ _ _ _ _ _ r h => by simp [Yk.j0] at h
 | k + 1 => by
  have ih0 := Yk.mono_l k
  ·intro y0 y1 y2 y3 y4 y5 y6 y7 y8 y9 y10 y11 y12 y13 y14 y15
   unfold Yk.j0
   repeat' first
   | (with_reducible exact ih0 _ _ _ _ _ _ _ _ _ _ _ _ _ _ _ _)
   | (with_reducible exact Ye.mono _ _ _ _ _ _ _ _ _ _ _ _ _ _)
   | (with_reducible exact Y7.mono _ _ _)
   | (with_reducible exact Yr.mono _ _ _ _ _ _ _ _ _ _ _ _ _ _ _)
   | (with_reducible exact Yg.mono _ _ _ _ _ _ _ _ _ _ _ _ _ _ _)
   | (with_reducible exact Yh.mono _ _ _ _ _ _ _ _ _ _ _ _ _ _ _)
   | (with_reducible exact Yn.mono _ _ _ _)
   | (with_reducible exact LeO.refl _)
   | (with_reducible exact LeO.none _)
   | (with_reducible refine LeO.ite ?_ ?_)
   | (with_reducible refine LeO.bind ?_ (fun _ => ?_))
theorem Yk.mono : ∀ a0 a1 a2 a3 a4 a5 a6 a7 a8 a9 a10 a11 a12 a13 a14 k, LeO (Yk.f k a0 a1 a2 a3 a4 a5 a6 a7 a8 a9 a10 a11 a12 a13 a14) (Yk.f (k + 1) a0 a1 a2 a3 a4 a5 a6 a7 a8 a9 a10 a11 a12 a13 a14) := by
 intro a0 a1 a2 a3 a4 a5 a6 a7 a8 a9 a10 a11 a12 a13 a14 k
 have ih0 := Yk.mono_l k
 unfold Yk.f
 repeat' first
   | (with_reducible exact ih0 _ _ _ _ _ _ _ _ _ _ _ _ _ _ _ _)
   | (with_reducible exact Ye.mono _ _ _ _ _ _ _ _ _ _ _ _ _ _)
   | (with_reducible exact Y7.mono _ _ _)
   | (with_reducible exact Yr.mono _ _ _ _ _ _ _ _ _ _ _ _ _ _ _)
   | (with_reducible exact Yg.mono _ _ _ _ _ _ _ _ _ _ _ _ _ _ _)
   | (with_reducible exact Yh.mono _ _ _ _ _ _ _ _ _ _ _ _ _ _ _)
   | (with_reducible exact Yn.mono _ _ _ _)
   | (with_reducible exact LeO.refl _)
   | (with_reducible exact LeO.none _)
   | (with_reducible refine LeO.ite ?_ ?_)
   | (with_reducible refine LeO.bind ?_ (fun _ => ?_))
def Yk.T15 : Bool × List (List Nat × List Nat) := (true, [([], []), ([0], [0]), ([], []), ([2], [2]), ([], []), ([3, 4], [3, 4]), ([1, 5], [1, 5]), ([6, 5, 0, 1, 2, 3, 4, 5, 6], [6]), ([7, 0, 1, 2, 3, 4, 5, 6, 7], [])])
def Yk.B15 : List Nat := [0, 1, 0, 4, 0, 28, 63, 127, 255]
theorem Yk.tab15 : rtab .any (opsOf Try.f20 15) = Yk.T15 := by kernel_rfl
theorem Yk.bits15 : Y1w Yk.T15.2 Yk.B15 = true := by kernel_rfl
set_option maxHeartbeats 8000000 in
set_option maxRecDepth 100000 in
theorem Yk.calls (k : Nat) (a0_0 : Int) (A0_1 : Option Addr) (c0_1 : Nat) (l0_1 : List (S30)) (a1_0 : Int) (a1_1 : Int) (a1_2 : Int) (a1_3 : Int) (a1_4 : Int) (a1_5 : Bool) (a1_6 : Int) (a1_7 : Int) (a1_8 : Int) (a1_9 : Int) (a1_10 : Int) (a1_11 : Int) (a1_12 : Int) (r1 : Int) (r2 : List (S30)) (r3 : Int) (w : World) (hr0_1 : Kd.C k30 w A0_1 l0_1.length l0_1) (hc0_1 : l0_1.length ≤ c0_1) (h : Yk.f k a0_0 l0_1 a1_0 a1_1 a1_2 a1_3 a1_4 a1_5 a1_6 a1_7 a1_8 a1_9 a1_10 a1_11 a1_12 = some (r1, r2, r3)) :
  Calls Try.prog 20 #[.agg #[.int .i64 a0_0, .slice A0_1 l0_1.length c0_1], .agg #[.int .i64 a1_0, .int .i64 a1_1, .int .i64 a1_2, .int .i64 a1_3, .int .i64 a1_4, .bool a1_5, .int .i64 a1_6, .int .i64 a1_7, .int .i64 a1_8, .int .i64 a1_9, .int .i64 a1_10, .int .i64 a1_11, .int .i64 a1_12]] w fun e w' => ∃ v1_ : Value, e = .returned (.tuple #[.agg #[.int .i64 r1, v1_], .int .i64 r3]) ∧ Kd.R k30 30 w' w.heap.size (fun _ => True) v1_ r2 ∧ Below w.heap.size w w' := by
 have hu24 := Try.underlying24
 have hu30 := Try.underlying30
 have hu26 := Try.underlying26
 have HR0_1 := Y0.mk hr0_1
 have HC0_1 := Y0.mk hc0_1
 clear hr0_1 hc0_1
 have HB := Y0.mk (Below.refl w.heap.size w)
 have H : ((Y7.f k a0_0 l0_1).bind fun t_0 => (if t_0 = 0 then ((Ye.f k a1_0 a1_1 a1_2 a1_3 a1_4 a1_5 a1_6 a1_7 a1_8 a1_9 a1_10 a1_11 a1_12).bind fun t_1 => (if t_1 = 0 then ((Yr.f k l0_1 a1_0 a1_1 a1_2 a1_3 a1_4 a1_5 a1_6 a1_7 a1_8 a1_9 a1_10 a1_11 a1_12).bind fun t_7 => (if t_7 = true then ((Y11.f a0_0 l0_1).bind fun b_0 => (some (b_0.1, b_0.2, 0))) else ((Yn.f k l0_1 a1_0 a1_1).bind fun t_4 => (if t_4 = true then (some (0, ([] : List (S30)), 7)) else ((Yg.f k l0_1 a1_0 a1_1 a1_2 a1_3 a1_4 a1_5 a1_6 a1_7 a1_8 a1_9 a1_10 a1_11 a1_12).bind fun t_5 => (if t_5 = true then (Yk.j0 k false a0_0 l0_1 a1_0 a1_1 a1_2 a1_3 a1_4 a1_5 a1_6 a1_7 a1_8 a1_9 a1_10 a1_11 a1_12) else ((YM.f a1_0 a1_1 a1_2 a1_3 a1_4 a1_5 a1_6 a1_7 a1_8 a1_9 a1_10 a1_11 a1_12 a1_0 a1_1 a1_2 a1_3 a1_4 a1_5 a1_6 a1_7 a1_8 a1_9 a1_10 a1_11 a1_12).bind fun t_2 => (Yk.j0 k (!t_2) a0_0 l0_1 a1_0 a1_1 a1_2 a1_3 a1_4 a1_5 a1_6 a1_7 a1_8 a1_9 a1_10 a1_11 a1_12)))))))) else (some (0, ([] : List (S30)), t_1)))) else (some (0, ([] : List (S30)), t_0)))) = some (r1, r2, r3) := h
 clear h
 obtain ⟨t_0, A30, H⟩ := bS H
 try dsimp only at H
 have A3 := Y0.mk A30
 clear A30
 by_cases c4 : t_0 = 0
 ·rw [if_pos c4] at H
  have c4b0 := bqT c4
  have c4b1 := bnF c4
  clear c4
  obtain ⟨t_1, A50, H⟩ := bS H
  try dsimp only at H
  have A5 := Y0.mk A50
  clear A50
  by_cases c6 : t_1 = 0
  ·rw [if_pos c6] at H
   have c6b0 := bqT c6
   have c6b1 := bnF c6
   clear c6
   obtain ⟨t_7, A70, H⟩ := bS H
   try dsimp only at H
   have A7 := Y0.mk A70
   clear A70
   by_cases c8 : t_7 = true
   ·subst c8
    have H1 : ((Y11.f a0_0 l0_1).bind fun b_0 => (some (b_0.1, b_0.2, 0))) = some (r1, r2, r3) := by rw [if_pos rfl] at H; exact H
    clear H
    have H := H1
    clear H1
    obtain ⟨⟨t_6, t_8⟩, A90, H⟩ := bS H
    replace H : (some (t_6, t_8, 0)) = some (r1, r2, r3) := H
    have A9 := Y0.mk A90
    clear A90
    simp only [Option.some.injEq, Prod.mk.injEq] at H
    obtain ⟨rfl, rfl, rfl⟩ := H
    go_enter Try.func20, Try.ntmps20
    go_wp2_with (first | ((with_reducible refine Yf (N := 2) rfl ?_); refine Yi ?hg (N := 2) ?hd (cs := #[.int .i64 a0_0, .slice A0_1 l0_1.length c0_1]) (t := 24) ?hr ?_; (case hd => rfl); (case hg => rfl); (case hr => first | (go_simp; done) | (go_simp; rfl)); intro g_2 hg w10 hbox hb; have n0_ := Y0.mk (Y6 (hU HB.out) hb); have n1_ := Y0.mk (hbox); have n2_ := gE hg HB; have n3_ := gE hg HB; clear HB; have HB := n0_; have B_0 := n1_; have W_1 := n2_; have G_1 := n3_; clear n0_ n1_ n2_ n3_; clear hb hbox hg) | ((with_reducible refine Yf (N := 3) rfl ?_); refine Yi ?hg (N := 3) ?hd (cs := #[.int .i64 a1_0, .int .i64 a1_1, .int .i64 a1_2, .int .i64 a1_3, .int .i64 a1_4, .bool a1_5, .int .i64 a1_6, .int .i64 a1_7, .int .i64 a1_8, .int .i64 a1_9, .int .i64 a1_10, .int .i64 a1_11, .int .i64 a1_12]) (t := 30) ?hr ?_; (case hd => rfl); (case hg => rfl); (case hr => first | (go_simp; done) | (go_simp; rfl)); intro g_1 hg w11 hbox hb; have n0_ := Y0.mk (Y2 (bU B_0.out) hb); have n1_ := Y0.mk (Y6 (hU HB.out) hb); have n2_ := Y0.mk (hbox); have n3_ := gE hg HB; have n4_ := gE hg HB; have n5_ := gL hg B_0; have n6_ := gG hg B_0; clear B_0; clear HB; have B_0 := n0_; have HB := n1_; have B_1 := n2_; have W_0 := n3_; have G_0 := n4_; have N_5 := n5_; have N_4 := n6_; clear n0_ n1_ n2_ n3_ n4_ n5_ n6_; clear hb hbox hg) | ((with_reducible refine Yf (N := 4) rfl ?_); refine Yi ?hg (N := 4) ?hd (cs := #[.int .i64 0, .slice none 0 0]) (t := 24) ?hr ?_; (case hd => rfl); (case hg => rfl); (case hr => first | (go_simp; done) | (go_simp; rfl)); intro g_0 hg w12 hbox hb; have n0_ := Y0.mk (Y2 (bU B_0.out) hb); have n1_ := Y0.mk (Y2 (bU B_1.out) hb); have n2_ := Y0.mk (Y6 (hU HB.out) hb); have n3_ := Y0.mk (hbox); have n4_ := gE hg HB; have n5_ := gE hg HB; have n6_ := gL hg B_0; have n7_ := gG hg B_0; have n8_ := gL hg B_1; have n9_ := gG hg B_1; clear B_0; clear B_1; clear HB; have B_0 := n0_; have B_1 := n1_; have HB := n2_; have B_2 := n3_; have W_2 := n4_; have G_2 := n5_; have N_1 := n6_; have N_2 := n7_; have N_0 := n8_; have N_3 := n9_; clear n0_ n1_ n2_ n3_ n4_ n5_ n6_ n7_ n8_ n9_; clear hb hbox hg; have hnb13 := N_5.out; have hnc13 := N_4.out; have hnb14 := N_1.out; have hnc14 := N_2.out; have z_n := Y1 B_0.out; have f_l := Y4 B_0.out) | ((with_reducible refine Yb (f := 34) rfl ?_); refine goesA (some 9) Try.func34 #[.agg #[.int .i64 a0_0, .slice A0_1 l0_1.length c0_1]] ?_; (with_reducible refine (Y7.calls k a0_0 _ _ l0_1 t_0 _ ?side1 ?side2 A3.out).mono ?_); (case side1 => repeat (first | exact (Kd.C_below HR0_1.out HB.out) | (with_reducible refine Kd.C_alloc ?_ _) | (with_reducible refine Kd.C_drewN ?_ _) | (with_reducible refine Kd.C_drew ?_))); (case side2 => exact HC0_1.out); rintro e w16 ⟨rfl, hb⟩; refine ⟨_, rfl, ?_⟩; replace B_0 := Y0.mk (Y2 (bU B_0.out) hb); replace B_1 := Y0.mk (Y2 (bU B_1.out) hb); replace B_2 := Y0.mk (Y2 (bU B_2.out) hb); replace HB := Y0.mk (Y6 (hU HB.out) hb); (try clear hb); (try clear hb2); (try clear hk); (try clear hi); have hnb17 := N_0.out; have hnc17 := N_3.out; have z_a := Y1 B_1.out; have f_c := Y4 B_1.out) | ((with_reducible refine Yb (f := 59) rfl ?_); refine goesA (some 15) Try.func59 #[.agg #[.int .i64 a1_0, .int .i64 a1_1, .int .i64 a1_2, .int .i64 a1_3, .int .i64 a1_4, .bool a1_5, .int .i64 a1_6, .int .i64 a1_7, .int .i64 a1_8, .int .i64 a1_9, .int .i64 a1_10, .int .i64 a1_11, .int .i64 a1_12]] ?_; (with_reducible refine (Ye.calls k a1_0 a1_1 a1_2 a1_3 a1_4 a1_5 a1_6 a1_7 a1_8 a1_9 a1_10 a1_11 a1_12 t_1 _ A5.out).mono ?_); rintro e w19 ⟨rfl, hb⟩; refine ⟨_, rfl, ?_⟩; replace B_0 := Y0.mk (Y2 (bU B_0.out) hb); replace B_1 := Y0.mk (Y2 (bU B_1.out) hb); replace B_2 := Y0.mk (Y2 (bU B_2.out) hb); replace HB := Y0.mk (Y6 (hU HB.out) hb); (try clear hb); (try clear hb2); (try clear hk); (try clear hi); have z_h := Y1 B_0.out; have f_8 := Y4 B_0.out; have z_7 := Y1 B_1.out; have f_a := Y4 B_1.out) | ((with_reducible refine Yb (f := 60) rfl ?_); refine goesA (some 23) Try.func60 #[.slice A0_1 l0_1.length c0_1, .agg #[.int .i64 a1_0, .int .i64 a1_1, .int .i64 a1_2, .int .i64 a1_3, .int .i64 a1_4, .bool a1_5, .int .i64 a1_6, .int .i64 a1_7, .int .i64 a1_8, .int .i64 a1_9, .int .i64 a1_10, .int .i64 a1_11, .int .i64 a1_12]] ?_; (with_reducible refine (Yr.calls k _ _ l0_1 a1_0 a1_1 a1_2 a1_3 a1_4 a1_5 a1_6 a1_7 a1_8 a1_9 a1_10 a1_11 a1_12 true _ ?side1 ?side2 A7.out).mono ?_); (case side1 => repeat (first | exact (Kd.C_below HR0_1.out HB.out) | (with_reducible refine Kd.C_alloc ?_ _) | (with_reducible refine Kd.C_drewN ?_ _) | (with_reducible refine Kd.C_drew ?_))); (case side2 => exact HC0_1.out); rintro e w22 ⟨rfl, hb⟩; refine ⟨_, rfl, ?_⟩; replace B_0 := Y0.mk (Y2 (bU B_0.out) hb); replace B_1 := Y0.mk (Y2 (bU B_1.out) hb); replace B_2 := Y0.mk (Y2 (bU B_2.out) hb); replace HB := Y0.mk (Y6 (hU HB.out) hb); (try clear hb); (try clear hb2); (try clear hk); (try clear hi); have z_k := Y1 B_0.out; have f_6 := Y4 B_0.out) | ((with_reducible refine Yb (f := 61) rfl ?_); refine goesA (some 25) Try.func61 #[.agg #[.int .i64 a0_0, .slice A0_1 l0_1.length c0_1]] ?_; (with_reducible refine (Y11.calls a0_0 _ _ l0_1 t_6 t_8 _ ?side1 ?side2 A9.out).mono ?_); (case side1 => repeat (first | exact (Kd.C_below HR0_1.out HB.out) | (with_reducible refine Kd.C_alloc ?_ _) | (with_reducible refine Kd.C_drewN ?_ _) | (with_reducible refine Kd.C_drew ?_))); (case side2 => exact HC0_1.out); rintro e w24 ⟨v_1, rfl, ho0, hb⟩; refine ⟨_, rfl, ?_⟩; replace O_1 := Y0.mk (Kd.R_lower (Kd.R_newB ho0 (bU B_1.out)) (Yp (hU HB.out))); replace B_0 := Y0.mk (Y2 (bU B_0.out) hb); replace B_1 := Y0.mk (Y2 (bU B_1.out) hb); replace B_2 := Y0.mk (Y2 (bU B_2.out) hb); replace HB := Y0.mk (Y6 (hU HB.out) hb); (try clear hb); (try clear hb2); (try clear hk); (try clear hi); (try clear ho0); have z_6 := Y1 B_2.out; have f_9 := Y4 B_2.out; obtain ⟨Ao26, co26, eo26⟩ := Kd.R_slice O_1.out; subst eo26))
    refine bodyPost_ret (Y16 rfl _ _ g_0 24 #[.int .i64 t_6, .slice Ao26 t_8.length co26] (0, 0) _ rfl (by (with_reducible repeat (first | refine Yd ?_ _ | refine Ya ?_ | refine Y9 ?_ _)); refine Yw (cs := #[.int .i64 t_6, .slice none 0 0]) ?_ 1 _ rfl; (with_reducible repeat (first | refine Yd ?_ _ | refine Ya ?_ | refine Y9 ?_ _)); refine Yw (cs := #[.int .i64 0, .slice none 0 0]) ?_ 0 _ rfl; (with_reducible repeat (first | refine Yd ?_ _ | refine Ya ?_ | refine Y9 ?_ _)); exact B_2.out) Try.underlying24 rfl (by kernel_rfl)) rfl ?_
    exact ⟨_, reT, by (with_reducible repeat (first | apply Kd.R_alloc | apply Kd.R_drewN | apply Kd.R_drew)); exact Kd.R_mono (Kd.R_far (p := ⟨g_0, 1, none⟩) (Kd.R_far (p := ⟨g_0, 0, none⟩) (Kd.R_types O_1.out B_2.out (by decide)) (fun _ hk => hk.2) (.int .i64 t_6)) (fun _ hk => hk.2) (.slice Ao26 t_8.length co26)) (fun _ hk => trivial), hU HB.out⟩
   ·replace c8 := Bool.eq_false_iff.mpr c8
    subst c8
    rw [if_neg (show ¬ (false = true) by decide)] at H
    obtain ⟨t_4, A270, H⟩ := bS H
    try dsimp only at H
    have A27 := Y0.mk A270
    clear A270
    by_cases c28 : t_4 = true
    ·subst c28
     have H1 : (some (0, ([] : List (S30)), 7)) = some (r1, r2, r3) := by rw [if_pos rfl] at H; exact H
     clear H
     have H := H1
     clear H1
     simp only [Option.some.injEq, Prod.mk.injEq] at H
     obtain ⟨rfl, rfl, rfl⟩ := H
     go_enter Try.func20, Try.ntmps20
     go_wp2_with (first | ((with_reducible refine Yf (N := 2) rfl ?_); refine Yi ?hg (N := 2) ?hd (cs := #[.int .i64 a0_0, .slice A0_1 l0_1.length c0_1]) (t := 24) ?hr ?_; (case hd => rfl); (case hg => rfl); (case hr => first | (go_simp; done) | (go_simp; rfl)); intro g_2 hg w29 hbox hb; have n0_ := Y0.mk (Y6 (hU HB.out) hb); have n1_ := Y0.mk (hbox); have n2_ := gE hg HB; have n3_ := gE hg HB; clear HB; have HB := n0_; have B_0 := n1_; have W_1 := n2_; have G_1 := n3_; clear n0_ n1_ n2_ n3_; clear hb hbox hg) | ((with_reducible refine Yf (N := 3) rfl ?_); refine Yi ?hg (N := 3) ?hd (cs := #[.int .i64 a1_0, .int .i64 a1_1, .int .i64 a1_2, .int .i64 a1_3, .int .i64 a1_4, .bool a1_5, .int .i64 a1_6, .int .i64 a1_7, .int .i64 a1_8, .int .i64 a1_9, .int .i64 a1_10, .int .i64 a1_11, .int .i64 a1_12]) (t := 30) ?hr ?_; (case hd => rfl); (case hg => rfl); (case hr => first | (go_simp; done) | (go_simp; rfl)); intro g_1 hg w30 hbox hb; have n0_ := Y0.mk (Y2 (bU B_0.out) hb); have n1_ := Y0.mk (Y6 (hU HB.out) hb); have n2_ := Y0.mk (hbox); have n3_ := gE hg HB; have n4_ := gE hg HB; have n5_ := gL hg B_0; have n6_ := gG hg B_0; clear B_0; clear HB; have B_0 := n0_; have HB := n1_; have B_1 := n2_; have W_0 := n3_; have G_0 := n4_; have N_5 := n5_; have N_4 := n6_; clear n0_ n1_ n2_ n3_ n4_ n5_ n6_; clear hb hbox hg) | ((with_reducible refine Yf (N := 4) rfl ?_); refine Yi ?hg (N := 4) ?hd (cs := #[.int .i64 0, .slice none 0 0]) (t := 24) ?hr ?_; (case hd => rfl); (case hg => rfl); (case hr => first | (go_simp; done) | (go_simp; rfl)); intro g_0 hg w31 hbox hb; have n0_ := Y0.mk (Y2 (bU B_0.out) hb); have n1_ := Y0.mk (Y2 (bU B_1.out) hb); have n2_ := Y0.mk (Y6 (hU HB.out) hb); have n3_ := Y0.mk (hbox); have n4_ := gE hg HB; have n5_ := gE hg HB; have n6_ := gL hg B_0; have n7_ := gG hg B_0; have n8_ := gL hg B_1; have n9_ := gG hg B_1; clear B_0; clear B_1; clear HB; have B_0 := n0_; have B_1 := n1_; have HB := n2_; have B_2 := n3_; have W_2 := n4_; have G_2 := n5_; have N_1 := n6_; have N_2 := n7_; have N_0 := n8_; have N_3 := n9_; clear n0_ n1_ n2_ n3_ n4_ n5_ n6_ n7_ n8_ n9_; clear hb hbox hg; have hnb32 := N_5.out; have hnc32 := N_4.out; have hnb33 := N_1.out; have hnc33 := N_2.out; have z_1 := Y1 B_0.out; have f_1 := Y4 B_0.out) | ((with_reducible refine Yb (f := 34) rfl ?_); refine goesA (some 9) Try.func34 #[.agg #[.int .i64 a0_0, .slice A0_1 l0_1.length c0_1]] ?_; (with_reducible refine (Y7.calls k a0_0 _ _ l0_1 t_0 _ ?side1 ?side2 A3.out).mono ?_); (case side1 => repeat (first | exact (Kd.C_below HR0_1.out HB.out) | (with_reducible refine Kd.C_alloc ?_ _) | (with_reducible refine Kd.C_drewN ?_ _) | (with_reducible refine Kd.C_drew ?_))); (case side2 => exact HC0_1.out); rintro e w35 ⟨rfl, hb⟩; refine ⟨_, rfl, ?_⟩; replace B_0 := Y0.mk (Y2 (bU B_0.out) hb); replace B_1 := Y0.mk (Y2 (bU B_1.out) hb); replace B_2 := Y0.mk (Y2 (bU B_2.out) hb); replace HB := Y0.mk (Y6 (hU HB.out) hb); (try clear hb); (try clear hb2); (try clear hk); (try clear hi); have hnb36 := N_0.out; have hnc36 := N_3.out; have z_b := Y1 B_1.out; have f_3 := Y4 B_1.out) | ((with_reducible refine Yb (f := 59) rfl ?_); refine goesA (some 15) Try.func59 #[.agg #[.int .i64 a1_0, .int .i64 a1_1, .int .i64 a1_2, .int .i64 a1_3, .int .i64 a1_4, .bool a1_5, .int .i64 a1_6, .int .i64 a1_7, .int .i64 a1_8, .int .i64 a1_9, .int .i64 a1_10, .int .i64 a1_11, .int .i64 a1_12]] ?_; (with_reducible refine (Ye.calls k a1_0 a1_1 a1_2 a1_3 a1_4 a1_5 a1_6 a1_7 a1_8 a1_9 a1_10 a1_11 a1_12 t_1 _ A5.out).mono ?_); rintro e w38 ⟨rfl, hb⟩; refine ⟨_, rfl, ?_⟩; replace B_0 := Y0.mk (Y2 (bU B_0.out) hb); replace B_1 := Y0.mk (Y2 (bU B_1.out) hb); replace B_2 := Y0.mk (Y2 (bU B_2.out) hb); replace HB := Y0.mk (Y6 (hU HB.out) hb); (try clear hb); (try clear hb2); (try clear hk); (try clear hi); have z_g := Y1 B_0.out; have f_e := Y4 B_0.out; have z_m := Y1 B_1.out; have f_d := Y4 B_1.out) | ((with_reducible refine Yb (f := 60) rfl ?_); refine goesA (some 23) Try.func60 #[.slice A0_1 l0_1.length c0_1, .agg #[.int .i64 a1_0, .int .i64 a1_1, .int .i64 a1_2, .int .i64 a1_3, .int .i64 a1_4, .bool a1_5, .int .i64 a1_6, .int .i64 a1_7, .int .i64 a1_8, .int .i64 a1_9, .int .i64 a1_10, .int .i64 a1_11, .int .i64 a1_12]] ?_; (with_reducible refine (Yr.calls k _ _ l0_1 a1_0 a1_1 a1_2 a1_3 a1_4 a1_5 a1_6 a1_7 a1_8 a1_9 a1_10 a1_11 a1_12 false _ ?side1 ?side2 A7.out).mono ?_); (case side1 => repeat (first | exact (Kd.C_below HR0_1.out HB.out) | (with_reducible refine Kd.C_alloc ?_ _) | (with_reducible refine Kd.C_drewN ?_ _) | (with_reducible refine Kd.C_drew ?_))); (case side2 => exact HC0_1.out); rintro e w41 ⟨rfl, hb⟩; refine ⟨_, rfl, ?_⟩; replace B_0 := Y0.mk (Y2 (bU B_0.out) hb); replace B_1 := Y0.mk (Y2 (bU B_1.out) hb); replace B_2 := Y0.mk (Y2 (bU B_2.out) hb); replace HB := Y0.mk (Y6 (hU HB.out) hb); (try clear hb); (try clear hb2); (try clear hk); (try clear hi); have z_0 := Y1 B_0.out; have f_4 := Y4 B_0.out; have z_c := Y1 B_1.out; have f_0 := Y4 B_1.out) | ((with_reducible refine Yb (f := 62) rfl ?_); refine goesA (some 30) Try.func62 #[.slice A0_1 l0_1.length c0_1, .agg #[.int .i64 a1_0, .int .i64 a1_1]] ?_; (with_reducible refine (Yn.calls k _ _ l0_1 a1_0 a1_1 true _ ?side1 ?side2 A27.out).mono ?_); (case side1 => repeat (first | exact (Kd.C_below HR0_1.out HB.out) | (with_reducible refine Kd.C_alloc ?_ _) | (with_reducible refine Kd.C_drewN ?_ _) | (with_reducible refine Kd.C_drew ?_))); (case side2 => exact HC0_1.out); rintro e w44 ⟨rfl, hb⟩; refine ⟨_, rfl, ?_⟩; replace B_0 := Y0.mk (Y2 (bU B_0.out) hb); replace B_1 := Y0.mk (Y2 (bU B_1.out) hb); replace B_2 := Y0.mk (Y2 (bU B_2.out) hb); replace HB := Y0.mk (Y6 (hU HB.out) hb); (try clear hb); (try clear hb2); (try clear hk); (try clear hi); have z_e := Y1 B_2.out; have f_n := Y4 B_2.out))
     refine bodyPost_ret (Y16 rfl _ _ g_0 24 #[.int .i64 0, .slice none 0 0] (0, 0) _ rfl (by (with_reducible repeat (first | refine Yd ?_ _ | refine Ya ?_ | refine Y9 ?_ _)); refine Yw (cs := #[.int .i64 0, .slice none 0 0]) ?_ 1 _ rfl; (with_reducible repeat (first | refine Yd ?_ _ | refine Ya ?_ | refine Y9 ?_ _)); refine Yw (cs := #[.int .i64 0, .slice none 0 0]) ?_ 0 _ rfl; (with_reducible repeat (first | refine Yd ?_ _ | refine Ya ?_ | refine Y9 ?_ _)); exact B_2.out) Try.underlying24 rfl (by kernel_rfl)) rfl ?_
     exact ⟨_, reT, by first | exact Kd.R_nil _ _ _ _ _ | exact Kd.N_nil _ _ _ _ _ | exact Kd.V_nil _ _ _ _ _ | exact Kd.Q_nil _ _ _ _ _ | exact Kd.S_nil _ _ _ _ _, hU HB.out⟩
    ·replace c28 := Bool.eq_false_iff.mpr c28
     subst c28
     rw [if_neg (show ¬ (false = true) by decide)] at H
     have HC46 := Y0.mk H
     clear H
     go_enter Try.func20, Try.ntmps20
     go_upto_region 11 with (first | ((with_reducible refine Yf (N := 2) rfl ?_); refine Yi ?hg (N := 2) ?hd (cs := #[.int .i64 a0_0, .slice A0_1 l0_1.length c0_1]) (t := 24) ?hr ?_; (case hd => rfl); (case hg => rfl); (case hr => first | (go_simp; done) | (go_simp; rfl)); intro g_2 hg w47 hbox hb; have n0_ := Y0.mk (Y6 (hU HB.out) hb); have n1_ := Y0.mk (hbox); have n2_ := gE hg HB; have n3_ := gE hg HB; clear HB; have HB := n0_; have B_0 := n1_; have W_1 := n2_; have G_1 := n3_; clear n0_ n1_ n2_ n3_; clear hb hbox hg) | ((with_reducible refine Yf (N := 3) rfl ?_); refine Yi ?hg (N := 3) ?hd (cs := #[.int .i64 a1_0, .int .i64 a1_1, .int .i64 a1_2, .int .i64 a1_3, .int .i64 a1_4, .bool a1_5, .int .i64 a1_6, .int .i64 a1_7, .int .i64 a1_8, .int .i64 a1_9, .int .i64 a1_10, .int .i64 a1_11, .int .i64 a1_12]) (t := 30) ?hr ?_; (case hd => rfl); (case hg => rfl); (case hr => first | (go_simp; done) | (go_simp; rfl)); intro g_1 hg w48 hbox hb; have n0_ := Y0.mk (Y2 (bU B_0.out) hb); have n1_ := Y0.mk (Y6 (hU HB.out) hb); have n2_ := Y0.mk (hbox); have n3_ := gE hg HB; have n4_ := gE hg HB; have n5_ := gL hg B_0; have n6_ := gG hg B_0; clear B_0; clear HB; have B_0 := n0_; have HB := n1_; have B_1 := n2_; have W_0 := n3_; have G_0 := n4_; have N_5 := n5_; have N_4 := n6_; clear n0_ n1_ n2_ n3_ n4_ n5_ n6_; clear hb hbox hg) | ((with_reducible refine Yf (N := 4) rfl ?_); refine Yi ?hg (N := 4) ?hd (cs := #[.int .i64 0, .slice none 0 0]) (t := 24) ?hr ?_; (case hd => rfl); (case hg => rfl); (case hr => first | (go_simp; done) | (go_simp; rfl)); intro g_0 hg w49 hbox hb; have n0_ := Y0.mk (Y2 (bU B_0.out) hb); have n1_ := Y0.mk (Y2 (bU B_1.out) hb); have n2_ := Y0.mk (Y6 (hU HB.out) hb); have n3_ := Y0.mk (hbox); have n4_ := gE hg HB; have n5_ := gE hg HB; have n6_ := gL hg B_0; have n7_ := gG hg B_0; have n8_ := gL hg B_1; have n9_ := gG hg B_1; clear B_0; clear B_1; clear HB; have B_0 := n0_; have B_1 := n1_; have HB := n2_; have B_2 := n3_; have W_2 := n4_; have G_2 := n5_; have N_1 := n6_; have N_2 := n7_; have N_0 := n8_; have N_3 := n9_; clear n0_ n1_ n2_ n3_ n4_ n5_ n6_ n7_ n8_ n9_; clear hb hbox hg; have hnb50 := N_5.out; have hnc50 := N_4.out; have hnb51 := N_1.out; have hnc51 := N_2.out; have z_l := Y1 B_0.out; have f_i := Y4 B_0.out) | ((with_reducible refine Yb (f := 34) rfl ?_); refine goesA (some 9) Try.func34 #[.agg #[.int .i64 a0_0, .slice A0_1 l0_1.length c0_1]] ?_; (with_reducible refine (Y7.calls k a0_0 _ _ l0_1 t_0 _ ?side1 ?side2 A3.out).mono ?_); (case side1 => repeat (first | exact (Kd.C_below HR0_1.out HB.out) | (with_reducible refine Kd.C_alloc ?_ _) | (with_reducible refine Kd.C_drewN ?_ _) | (with_reducible refine Kd.C_drew ?_))); (case side2 => exact HC0_1.out); rintro e w53 ⟨rfl, hb⟩; refine ⟨_, rfl, ?_⟩; replace B_0 := Y0.mk (Y2 (bU B_0.out) hb); replace B_1 := Y0.mk (Y2 (bU B_1.out) hb); replace B_2 := Y0.mk (Y2 (bU B_2.out) hb); replace HB := Y0.mk (Y6 (hU HB.out) hb); (try clear hb); (try clear hb2); (try clear hk); (try clear hi); have hnb54 := N_0.out; have hnc54 := N_3.out; have z_f := Y1 B_1.out; have f_h := Y4 B_1.out) | ((with_reducible refine Yb (f := 59) rfl ?_); refine goesA (some 15) Try.func59 #[.agg #[.int .i64 a1_0, .int .i64 a1_1, .int .i64 a1_2, .int .i64 a1_3, .int .i64 a1_4, .bool a1_5, .int .i64 a1_6, .int .i64 a1_7, .int .i64 a1_8, .int .i64 a1_9, .int .i64 a1_10, .int .i64 a1_11, .int .i64 a1_12]] ?_; (with_reducible refine (Ye.calls k a1_0 a1_1 a1_2 a1_3 a1_4 a1_5 a1_6 a1_7 a1_8 a1_9 a1_10 a1_11 a1_12 t_1 _ A5.out).mono ?_); rintro e w56 ⟨rfl, hb⟩; refine ⟨_, rfl, ?_⟩; replace B_0 := Y0.mk (Y2 (bU B_0.out) hb); replace B_1 := Y0.mk (Y2 (bU B_1.out) hb); replace B_2 := Y0.mk (Y2 (bU B_2.out) hb); replace HB := Y0.mk (Y6 (hU HB.out) hb); (try clear hb); (try clear hb2); (try clear hk); (try clear hi); have z_9 := Y1 B_0.out; have f_k := Y4 B_0.out; have z_8 := Y1 B_1.out; have f_f := Y4 B_1.out) | ((with_reducible refine Yb (f := 60) rfl ?_); refine goesA (some 23) Try.func60 #[.slice A0_1 l0_1.length c0_1, .agg #[.int .i64 a1_0, .int .i64 a1_1, .int .i64 a1_2, .int .i64 a1_3, .int .i64 a1_4, .bool a1_5, .int .i64 a1_6, .int .i64 a1_7, .int .i64 a1_8, .int .i64 a1_9, .int .i64 a1_10, .int .i64 a1_11, .int .i64 a1_12]] ?_; (with_reducible refine (Yr.calls k _ _ l0_1 a1_0 a1_1 a1_2 a1_3 a1_4 a1_5 a1_6 a1_7 a1_8 a1_9 a1_10 a1_11 a1_12 false _ ?side1 ?side2 A7.out).mono ?_); (case side1 => repeat (first | exact (Kd.C_below HR0_1.out HB.out) | (with_reducible refine Kd.C_alloc ?_ _) | (with_reducible refine Kd.C_drewN ?_ _) | (with_reducible refine Kd.C_drew ?_))); (case side2 => exact HC0_1.out); rintro e w59 ⟨rfl, hb⟩; refine ⟨_, rfl, ?_⟩; replace B_0 := Y0.mk (Y2 (bU B_0.out) hb); replace B_1 := Y0.mk (Y2 (bU B_1.out) hb); replace B_2 := Y0.mk (Y2 (bU B_2.out) hb); replace HB := Y0.mk (Y6 (hU HB.out) hb); (try clear hb); (try clear hb2); (try clear hk); (try clear hi); have z_d := Y1 B_0.out; have f_m := Y4 B_0.out; have z_2 := Y1 B_1.out; have f_b := Y4 B_1.out) | ((with_reducible refine Yb (f := 62) rfl ?_); refine goesA (some 30) Try.func62 #[.slice A0_1 l0_1.length c0_1, .agg #[.int .i64 a1_0, .int .i64 a1_1]] ?_; (with_reducible refine (Yn.calls k _ _ l0_1 a1_0 a1_1 false _ ?side1 ?side2 A27.out).mono ?_); (case side1 => repeat (first | exact (Kd.C_below HR0_1.out HB.out) | (with_reducible refine Kd.C_alloc ?_ _) | (with_reducible refine Kd.C_drewN ?_ _) | (with_reducible refine Kd.C_drew ?_))); (case side2 => exact HC0_1.out); rintro e w62 ⟨rfl, hb⟩; refine ⟨_, rfl, ?_⟩; replace B_0 := Y0.mk (Y2 (bU B_0.out) hb); replace B_1 := Y0.mk (Y2 (bU B_1.out) hb); replace B_2 := Y0.mk (Y2 (bU B_2.out) hb); replace HB := Y0.mk (Y6 (hU HB.out) hb); (try clear hb); (try clear hb2); (try clear hk); (try clear hi)))
     (try simp only [Act.put, List.setIfInBounds_toArray, List.set_cons_zero, List.set_cons_succ])
     go_cut [42] (fun v42 wc => ∃ (kq : Nat) (x42_45 : Bool), v42 = .bool x42_45 ∧ Y0 (Yk.j0 kq x42_45 a0_0 l0_1 a1_0 a1_1 a1_2 a1_3 a1_4 a1_5 a1_6 a1_7 a1_8 a1_9 a1_10 a1_11 a1_12 = some (r1, r2, r3)) ∧ Y0 (kq ≤ k) ∧ Y0 (wc.heap[g_2]? = some (.cells #[.int .i64 a0_0, (.slice A0_1 l0_1.length c0_1)] 24 (0, 0))) ∧ Y0 (wc.heap[g_1]? = some (.cells #[.int .i64 a1_0, .int .i64 a1_1, .int .i64 a1_2, .int .i64 a1_3, .int .i64 a1_4, .bool a1_5, .int .i64 a1_6, .int .i64 a1_7, .int .i64 a1_8, .int .i64 a1_9, .int .i64 a1_10, .int .i64 a1_11, .int .i64 a1_12] 30 (0, 0))) ∧ Y0 (wc.heap[g_0]? = some (.cells #[.int .i64 0, (.slice none 0 0)] 24 (0, 0))) ∧ Y0 (Below w.heap.size w wc))
     case first =>
      have H := HC46.out
      clear HC46
      obtain ⟨t_5, A630, H⟩ := bS H
      try dsimp only at H
      have A63 := Y0.mk A630
      clear A630
      by_cases c64 : t_5 = true
      ·subst c64
       have H1 : (Yk.j0 k false a0_0 l0_1 a1_0 a1_1 a1_2 a1_3 a1_4 a1_5 a1_6 a1_7 a1_8 a1_9 a1_10 a1_11 a1_12) = some (r1, r2, r3) := by rw [if_pos rfl] at H; exact H
       clear H
       have H := H1
       clear H1
       have H' := Y0.mk H
       clear H
       have hnb65 := N_5.out
       have hnc65 := N_4.out
       have hnb66 := N_1.out
       have hnc66 := N_2.out
       have z_j := Y1 B_0.out
       have f_2 := Y4 B_0.out
       have hnb68 := N_0.out
       have hnc68 := N_3.out
       have z_5 := Y1 B_1.out
       have f_5 := Y4 B_1.out
       go_wp2_with (first | ((with_reducible refine Yb (f := 63) rfl ?_); refine goesA (some 35) Try.func63 #[.slice A0_1 l0_1.length c0_1, .agg #[.int .i64 a1_0, .int .i64 a1_1, .int .i64 a1_2, .int .i64 a1_3, .int .i64 a1_4, .bool a1_5, .int .i64 a1_6, .int .i64 a1_7, .int .i64 a1_8, .int .i64 a1_9, .int .i64 a1_10, .int .i64 a1_11, .int .i64 a1_12]] ?_; (with_reducible refine (Yg.calls k _ _ l0_1 a1_0 a1_1 a1_2 a1_3 a1_4 a1_5 a1_6 a1_7 a1_8 a1_9 a1_10 a1_11 a1_12 true _ ?side1 ?side2 A63.out).mono ?_); (case side1 => repeat (first | exact (Kd.C_below HR0_1.out HB.out) | (with_reducible refine Kd.C_alloc ?_ _) | (with_reducible refine Kd.C_drewN ?_ _) | (with_reducible refine Kd.C_drew ?_))); (case side2 => exact HC0_1.out); rintro e w70 ⟨rfl, hb⟩; refine ⟨_, rfl, ?_⟩; replace B_0 := Y0.mk (Y2 (bU B_0.out) hb); replace B_1 := Y0.mk (Y2 (bU B_1.out) hb); replace B_2 := Y0.mk (Y2 (bU B_2.out) hb); replace HB := Y0.mk (Y6 (hU HB.out) hb); (try clear hb); (try clear hb2); (try clear hk); (try clear hi)))
       go_meet
       case rel => exact ⟨_, (false), reS, H', ⟨by first | omega | exact Nat.le_refl _⟩, ⟨kB B_0⟩, ⟨kB B_1⟩, ⟨kB B_2⟩, ⟨hU HB.out⟩⟩
      ·replace c64 := Bool.eq_false_iff.mpr c64
       subst c64
       rw [if_neg (show ¬ (false = true) by decide)] at H
       obtain ⟨t_2, A710, H⟩ := bS H
       replace H : (Yk.j0 k (!t_2) a0_0 l0_1 a1_0 a1_1 a1_2 a1_3 a1_4 a1_5 a1_6 a1_7 a1_8 a1_9 a1_10 a1_11 a1_12) = some (r1, r2, r3) := H
       have A71 := Y0.mk A710
       clear A710
       have H' := Y0.mk H
       clear H
       have hnb72 := N_5.out
       have hnc72 := N_4.out
       have hnb73 := N_1.out
       have hnc73 := N_2.out
       have z_3 := Y1 B_0.out
       have f_g := Y4 B_0.out
       have hnb75 := N_0.out
       have hnc75 := N_3.out
       have z_4 := Y1 B_1.out
       have f_j := Y4 B_1.out
       go_wp2_with (first | ((with_reducible refine Yb (f := 63) rfl ?_); refine goesA (some 35) Try.func63 #[.slice A0_1 l0_1.length c0_1, .agg #[.int .i64 a1_0, .int .i64 a1_1, .int .i64 a1_2, .int .i64 a1_3, .int .i64 a1_4, .bool a1_5, .int .i64 a1_6, .int .i64 a1_7, .int .i64 a1_8, .int .i64 a1_9, .int .i64 a1_10, .int .i64 a1_11, .int .i64 a1_12]] ?_; (with_reducible refine (Yg.calls k _ _ l0_1 a1_0 a1_1 a1_2 a1_3 a1_4 a1_5 a1_6 a1_7 a1_8 a1_9 a1_10 a1_11 a1_12 false _ ?side1 ?side2 A63.out).mono ?_); (case side1 => repeat (first | exact (Kd.C_below HR0_1.out HB.out) | (with_reducible refine Kd.C_alloc ?_ _) | (with_reducible refine Kd.C_drewN ?_ _) | (with_reducible refine Kd.C_drew ?_))); (case side2 => exact HC0_1.out); rintro e w77 ⟨rfl, hb⟩; refine ⟨_, rfl, ?_⟩; replace B_0 := Y0.mk (Y2 (bU B_0.out) hb); replace B_1 := Y0.mk (Y2 (bU B_1.out) hb); replace B_2 := Y0.mk (Y2 (bU B_2.out) hb); replace HB := Y0.mk (Y6 (hU HB.out) hb); (try clear hb); (try clear hb2); (try clear hk); (try clear hi); have z_i := Y1 B_1.out; have f_7 := Y4 B_1.out) | (go_at_call 64; (with_reducible refine (YM.calls a1_0 a1_1 a1_2 a1_3 a1_4 a1_5 a1_6 a1_7 a1_8 a1_9 a1_10 a1_11 a1_12 a1_0 a1_1 a1_2 a1_3 a1_4 a1_5 a1_6 a1_7 a1_8 a1_9 a1_10 a1_11 a1_12 t_2 _ A71.out).mono ?_); rintro e w79 ⟨rfl, hb⟩; replace B_0 := Y0.mk (Y2 (bU B_0.out) hb); replace B_1 := Y0.mk (Y2 (bU B_1.out) hb); replace B_2 := Y0.mk (Y2 (bU B_2.out) hb); replace HB := Y0.mk (Y6 (hU HB.out) hb); (try clear hb); (try clear hb2); (try clear hk); (try clear hi)))
       go_meet
       case rel => exact ⟨_, (!t_2), reS, H', ⟨by first | omega | exact Nat.le_refl _⟩, ⟨kB B_0⟩, ⟨kB B_1⟩, ⟨kB B_2⟩, ⟨hU HB.out⟩⟩
     case rest =>
      clear HC46
      try clear c1
      try clear c2
      try clear p2
      try clear c3
      try clear c4
      try clear c4b0
      try clear c4b1
      try clear c5
      try clear c6
      try clear c6b0
      try clear c6b1
      try clear c7
      try clear c8
      try clear c13
      try clear c14
      try clear c17
      try clear c20
      try clear c28
      try clear c32
      try clear c33
      try clear c34
      try clear c36
      try clear c50
      try clear c51
      try clear c54
      try clear c59
      try clear c60
      try clear c61
      try clear c62
      try clear c63
      try clear c64
      try clear c65
      try clear c66
      try clear c68
      try clear c72
      try clear c73
      try clear c75
      try clear z_n
      try clear z_4n
      try clear z_a
      try clear z_4o
      try clear z_4u
      try clear z_2t
      try clear z_4m
      try clear z_4a
      try clear z_43
      try clear z_1v
      try clear z_3x
      try clear z_3z
      try clear z_3l
      try clear z_2m
      try clear z_4r
      try clear z_h
      try clear z_28
      try clear z_7
      try clear z_2q
      try clear z_12
      try clear z_38
      try clear z_4b
      try clear z_1s
      try clear z_r
      try clear z_35
      try clear z_w
      try clear z_42
      try clear z_34
      try clear z_z
      try clear z_45
      try clear z_k
      try clear z_1e
      try clear z_6
      try clear z_4e
      try clear z_1
      try clear z_15
      try clear z_b
      try clear z_3s
      try clear z_1o
      try clear z_q
      try clear z_1p
      try clear z_27
      try clear z_26
      try clear z_17
      try clear z_t
      try clear z_2r
      try clear z_3y
      try clear z_1h
      try clear z_4f
      try clear z_g
      try clear z_16
      try clear z_m
      try clear z_2l
      try clear z_36
      try clear z_1z
      try clear z_44
      try clear z_3e
      try clear z_2j
      try clear z_3w
      try clear z_3g
      try clear z_4h
      try clear z_2u
      try clear z_3h
      try clear z_2f
      try clear z_0
      try clear z_20
      try clear z_c
      try clear z_21
      try clear z_3d
      try clear z_29
      try clear z_2d
      try clear z_23
      try clear z_1d
      try clear z_y
      try clear z_14
      try clear z_2a
      try clear z_31
      try clear z_3i
      try clear z_3j
      try clear z_e
      try clear z_1u
      try clear z_l
      try clear z_22
      try clear z_f
      try clear z_2k
      try clear z_1i
      try clear z_18
      try clear z_3n
      try clear z_2h
      try clear z_2y
      try clear z_4g
      try clear z_3o
      try clear z_4i
      try clear z_24
      try clear z_2w
      try clear z_4k
      try clear z_9
      try clear z_4c
      try clear z_8
      try clear z_3k
      try clear z_30
      try clear z_2n
      try clear z_10
      try clear z_3c
      try clear z_3p
      try clear z_1n
      try clear z_1k
      try clear z_2b
      try clear z_3t
      try clear z_4j
      try clear z_25
      try clear z_d
      try clear z_47
      try clear z_2
      try clear z_1f
      try clear z_2i
      try clear z_3v
      try clear z_3a
      try clear z_33
      try clear z_1w
      try clear z_4v
      try clear z_1b
      try clear z_3q
      try clear z_4q
      try clear z_s
      try clear z_3m
      try clear z_j
      try clear z_2e
      try clear z_5
      try clear z_49
      try clear z_2v
      try clear z_4s
      try clear z_13
      try clear z_1g
      try clear z_1r
      try clear z_19
      try clear z_3r
      try clear z_2z
      try clear z_1c
      try clear z_11
      try clear z_u
      try clear z_3
      try clear z_v
      try clear z_4
      try clear z_4w
      try clear z_x
      try clear z_1l
      try clear z_40
      try clear z_3f
      try clear z_2g
      try clear z_1y
      try clear z_46
      try clear z_2s
      try clear z_1j
      try clear z_1x
      try clear z_2c
      try clear z_i
      try clear z_48
      try clear z_1q
      try clear z_1m
      try clear z_p
      try clear z_4d
      try clear z_1t
      try clear z_41
      try clear z_3u
      try clear z_39
      try clear z_37
      try clear z_4t
      try clear z_2x
      try clear f_l
      try clear f_3i
      try clear f_c
      try clear f_z
      try clear f_1t
      try clear f_23
      try clear f_1b
      try clear f_4v
      try clear f_2v
      try clear f_4d
      try clear f_34
      try clear f_1p
      try clear f_1v
      try clear f_1y
      try clear f_1e
      try clear f_8
      try clear f_u
      try clear f_a
      try clear f_4k
      try clear f_1g
      try clear f_26
      try clear f_4o
      try clear f_4r
      try clear f_3q
      try clear f_4j
      try clear f_3x
      try clear f_2k
      try clear f_1u
      try clear f_32
      try clear f_2w
      try clear f_6
      try clear f_4m
      try clear f_9
      try clear f_t
      try clear f_1
      try clear f_45
      try clear f_3
      try clear f_4q
      try clear f_4e
      try clear f_10
      try clear f_4g
      try clear f_2z
      try clear f_4n
      try clear f_24
      try clear f_37
      try clear f_3y
      try clear f_29
      try clear f_3t
      try clear f_3d
      try clear f_e
      try clear f_3u
      try clear f_d
      try clear f_2l
      try clear f_4a
      try clear f_15
      try clear f_1f
      try clear f_42
      try clear f_1l
      try clear f_16
      try clear f_2u
      try clear f_2x
      try clear f_49
      try clear f_3a
      try clear f_3b
      try clear f_4
      try clear f_1n
      try clear f_0
      try clear f_3r
      try clear f_17
      try clear f_4p
      try clear f_33
      try clear f_2o
      try clear f_13
      try clear f_q
      try clear f_36
      try clear f_1x
      try clear f_4i
      try clear f_3l
      try clear f_1z
      try clear f_n
      try clear f_w
      try clear f_i
      try clear f_1r
      try clear f_h
      try clear f_2d
      try clear f_3c
      try clear f_2b
      try clear f_3s
      try clear f_1d
      try clear f_2f
      try clear f_4u
      try clear f_2n
      try clear f_44
      try clear f_31
      try clear f_x
      try clear f_22
      try clear f_k
      try clear f_p
      try clear f_f
      try clear f_4x
      try clear f_4c
      try clear f_21
      try clear f_2j
      try clear f_2p
      try clear f_2g
      try clear f_v
      try clear f_40
      try clear f_4h
      try clear f_3e
      try clear f_4s
      try clear f_4b
      try clear f_m
      try clear f_28
      try clear f_b
      try clear f_25
      try clear f_14
      try clear f_4l
      try clear f_r
      try clear f_3m
      try clear f_39
      try clear f_y
      try clear f_27
      try clear f_3o
      try clear f_3g
      try clear f_19
      try clear f_30
      try clear f_2
      try clear f_3f
      try clear f_5
      try clear f_43
      try clear f_2h
      try clear f_3j
      try clear f_1j
      try clear f_3n
      try clear f_o
      try clear f_35
      try clear f_1o
      try clear f_18
      try clear f_1i
      try clear f_3z
      try clear f_2e
      try clear f_g
      try clear f_4f
      try clear f_j
      try clear f_s
      try clear f_2c
      try clear f_11
      try clear f_41
      try clear f_2t
      try clear f_38
      try clear f_1m
      try clear f_2a
      try clear f_47
      try clear f_2r
      try clear f_1k
      try clear f_3p
      try clear f_7
      try clear f_2y
      try clear f_1q
      try clear f_1c
      try clear f_3k
      try clear f_4w
      try clear f_1s
      try clear f_20
      try clear f_3h
      try clear f_2s
      try clear f_46
      try clear f_2i
      try clear f_48
      obtain ⟨kq, x42_45, rfl, HA, HJ45, B_0, B_1, B_2, HB⟩ := hcut
      cases kq with
      | zero => exact absurd HA.out (by simp [Yk.j0])
      | succ kj45 =>
       have H := HA.out
       clear HA
       simp only [Yk.j0] at H
       by_cases c80 : x42_45 = true
       ·subst c80
        have H1 : (some (0, ([] : List (S30)), 6)) = some (r1, r2, r3) := by rw [if_pos rfl] at H; exact H
        clear H
        have H := H1
        clear H1
        simp only [Option.some.injEq, Prod.mk.injEq] at H
        obtain ⟨rfl, rfl, rfl⟩ := H
        have hnb81 := N_2.out
        have hnc81 := N_1.out
        have hnb82 := N_3.out
        have hnc82 := N_0.out
        have z_1a := Y1 B_2.out
        have f_1h := Y4 B_2.out
        go_wp2
        refine bodyPost_ret (Y16 rfl _ _ g_0 24 #[.int .i64 0, .slice none 0 0] (0, 0) _ rfl (by (with_reducible repeat (first | refine Yd ?_ _ | refine Ya ?_ | refine Y9 ?_ _)); refine Yw (cs := #[.int .i64 0, .slice none 0 0]) ?_ 1 _ rfl; (with_reducible repeat (first | refine Yd ?_ _ | refine Ya ?_ | refine Y9 ?_ _)); refine Yw (cs := #[.int .i64 0, .slice none 0 0]) ?_ 0 _ rfl; (with_reducible repeat (first | refine Yd ?_ _ | refine Ya ?_ | refine Y9 ?_ _)); exact B_2.out) Try.underlying24 rfl (by kernel_rfl)) rfl ?_
        exact ⟨_, reT, by first | exact Kd.R_nil _ _ _ _ _ | exact Kd.N_nil _ _ _ _ _ | exact Kd.V_nil _ _ _ _ _ | exact Kd.Q_nil _ _ _ _ _ | exact Kd.S_nil _ _ _ _ _, hU HB.out⟩
       ·replace c80 := Bool.eq_false_iff.mpr c80
        subst c80
        rw [if_neg (show ¬ (false = true) by decide)] at H
        by_cases c84 : (l0_1.length : Int) ≥ 512
        ·rw [if_pos c84] at H
         have c84b0 := decide_eq_true c84
         have c84b1 : decide (512 ≤ l0_1.length) = true := decide_eq_true (by omega)
         clear c84
         simp only [Option.some.injEq, Prod.mk.injEq] at H
         obtain ⟨rfl, rfl, rfl⟩ := H
         have hnb85 := N_5.out
         have hnc85 := N_4.out
         have hnb86 := N_1.out
         have hnc86 := N_2.out
         have z_32 := Y1 B_0.out
         have f_2m := Y4 B_0.out
         have hnb88 := N_3.out
         have hnc88 := N_0.out
         have z_4x := Y1 B_2.out
         have f_2q := Y4 B_2.out
         go_wp2
         refine bodyPost_ret (Y16 rfl _ _ g_0 24 #[.int .i64 0, .slice none 0 0] (0, 0) _ rfl (by (with_reducible repeat (first | refine Yd ?_ _ | refine Ya ?_ | refine Y9 ?_ _)); refine Yw (cs := #[.int .i64 0, .slice none 0 0]) ?_ 1 _ rfl; (with_reducible repeat (first | refine Yd ?_ _ | refine Ya ?_ | refine Y9 ?_ _)); refine Yw (cs := #[.int .i64 0, .slice none 0 0]) ?_ 0 _ rfl; (with_reducible repeat (first | refine Yd ?_ _ | refine Ya ?_ | refine Y9 ?_ _)); exact B_2.out) Try.underlying24 rfl (by kernel_rfl)) rfl ?_
         exact ⟨_, reT, by first | exact Kd.R_nil _ _ _ _ _ | exact Kd.N_nil _ _ _ _ _ | exact Kd.V_nil _ _ _ _ _ | exact Kd.Q_nil _ _ _ _ _ | exact Kd.S_nil _ _ _ _ _, hU HB.out⟩
        ·rw [if_neg c84] at H
         have c84b0 := decide_eq_false c84
         have c84b1 : decide (512 ≤ l0_1.length) = false := decide_eq_false (by omega)
         clear c84
         obtain ⟨t_3, A900, H⟩ := bS H
         replace H : (some (a0_0, t_3, 0)) = some (r1, r2, r3) := H
         have A90 := Y0.mk A900
         clear A900
         simp only [Option.some.injEq, Prod.mk.injEq] at H
         obtain ⟨rfl, rfl, rfl⟩ := H
         have hnb91 := N_5.out
         have hnc91 := N_4.out
         have hnb92 := N_1.out
         have hnc92 := N_2.out
         have z_o := Y1 B_0.out
         have f_3v := Y4 B_0.out
         try go_wp2
         replace B_0 := Y0.mk (Ya B_0.out)
         replace B_1 := Y0.mk (Ya B_1.out)
         replace B_2 := Y0.mk (Ya B_2.out)
         replace HB := Y0.mk (YD HB.out)
         refine Y1m (n := 9) (S := fun w' => w'.cell? ⟨g_2, 0, none⟩ = some (.int .i64 a0_0) ∧ w'.cell? ⟨g_2, 1, none⟩ = some (.slice A0_1 l0_1.length c0_1) ∧ w'.cell? ⟨g_1, 0, none⟩ = some (.int .i64 a1_0) ∧ w'.cell? ⟨g_1, 1, none⟩ = some (.int .i64 a1_1) ∧ w'.cell? ⟨g_1, 2, none⟩ = some (.int .i64 a1_2) ∧ w'.cell? ⟨g_1, 3, none⟩ = some (.int .i64 a1_3) ∧ w'.cell? ⟨g_1, 4, none⟩ = some (.int .i64 a1_4) ∧ w'.cell? ⟨g_1, 5, none⟩ = some (.bool a1_5) ∧ w'.cell? ⟨g_1, 6, none⟩ = some (.int .i64 a1_6) ∧ w'.cell? ⟨g_1, 7, none⟩ = some (.int .i64 a1_7) ∧ w'.cell? ⟨g_1, 8, none⟩ = some (.int .i64 a1_8) ∧ w'.cell? ⟨g_1, 9, none⟩ = some (.int .i64 a1_9) ∧ w'.cell? ⟨g_1, 10, none⟩ = some (.int .i64 a1_10) ∧ w'.cell? ⟨g_1, 11, none⟩ = some (.int .i64 a1_11) ∧ w'.cell? ⟨g_1, 12, none⟩ = some (.int .i64 a1_12)) (ds := []) #[false, false, false, false, false, false, false, false, false] (by kernel_rfl) rfl rfl ⟨(Y1 B_0.out 0).trans rfl, (Y1 B_0.out 1).trans rfl, (Y1 B_1.out 0).trans rfl, (Y1 B_1.out 1).trans rfl, (Y1 B_1.out 2).trans rfl, (Y1 B_1.out 3).trans rfl, (Y1 B_1.out 4).trans rfl, (Y1 B_1.out 5).trans rfl, (Y1 B_1.out 6).trans rfl, (Y1 B_1.out 7).trans rfl, (Y1 B_1.out 8).trans rfl, (Y1 B_1.out 9).trans rfl, (Y1 B_1.out 10).trans rfl, (Y1 B_1.out 11).trans rfl, (Y1 B_1.out 12).trans rfl⟩ (fun hHeld => ?_); refine Y17 Yk.tab15 Yk.bits15 (fun HT_ HW_ => ?_)
         generalize wc.drew = w94 at B_0 B_1 B_2 HB hHeld ⊢
         refine puA 0 49 (bs 9 1) ?_
         refine puA 2 51 (bs 9 5) ?_
         refine tkA 1 50 (bs 9 7) hHeld ?_
         refine tkA 3 52 (bs 9 15) hHeld ?_
         refine tkA 4 53 (bs 9 31) hHeld ?_
         refine one_ (i := 5) (N := some 54) (bs 9 63) rfl rfl (Y10 HT_.out (by kernel_rfl)) (by decide) (fun K hK => ?_)
         refine goes_ Try.func65 (by kernel_rfl) rfl #[.slice A0_1 l0_1.length c0_1, .agg #[.int .i64 a1_0, .int .i64 a1_1, .int .i64 a1_2, .int .i64 a1_3, .int .i64 a1_4, .bool a1_5, .int .i64 a1_6, .int .i64 a1_7, .int .i64 a1_8, .int .i64 a1_9, .int .i64 a1_10, .int .i64 a1_11, .int .i64 a1_12]] (by rfl) rfl rfl (by (try simp only [List.map_toArray, List.map_cons, List.map_nil]); first | done | rfl | (simp only [List.length_drop, List.length_take]; rfl)) ?_
         with_reducible refine (Yh.calls kj45 _ _ l0_1 a1_0 a1_1 a1_2 a1_3 a1_4 a1_5 a1_6 a1_7 a1_8 a1_9 a1_10 a1_11 a1_12 t_3 _ ?side1 ?side2 A90.out).mono ?_
         (case side1 => repeat (first | exact (Kd.C_below HR0_1.out HB.out) | (with_reducible refine Kd.C_alloc ?_ _) | (with_reducible refine Kd.C_drewN ?_ _) | (with_reducible refine Kd.C_drew ?_)))
         (case side2 => exact HC0_1.out)
         rintro e w95 ⟨v_0, rfl, ho0, hb⟩
         refine ⟨_, rfl, ?_⟩
         replace O_0 := Y0.mk (Kd.R_lower (Kd.R_newB ho0 (bU B_1.out)) (Yp (hU HB.out)))
         replace B_0 := Y0.mk (Y2 (bU B_0.out) hb)
         replace B_1 := Y0.mk (Y2 (bU B_1.out) hb)
         replace B_2 := Y0.mk (Y2 (bU B_2.out) hb)
         replace HB := Y0.mk (Y6 (hU HB.out) hb)
         (try clear hb)
         (try clear hb2)
         (try clear hk)
         (try clear hi)
         (try clear ho0)
         obtain ⟨Ao96, co96, eo96⟩ := Kd.R_slice O_0.out
         (first | subst eo96 | (injection eo96 with f1_ f2_ f3_; have f4_ := f1_.symm; have f5_ := f3_.symm; clear f1_ f2_ f3_; subst f4_; subst f5_))
         refine hK.out _ _ ⟨(Y1 B_0.out 0).trans rfl, (Y1 B_0.out 1).trans rfl, (Y1 B_1.out 0).trans rfl, (Y1 B_1.out 1).trans rfl, (Y1 B_1.out 2).trans rfl, (Y1 B_1.out 3).trans rfl, (Y1 B_1.out 4).trans rfl, (Y1 B_1.out 5).trans rfl, (Y1 B_1.out 6).trans rfl, (Y1 B_1.out 7).trans rfl, (Y1 B_1.out 8).trans rfl, (Y1 B_1.out 9).trans rfl, (Y1 B_1.out 10).trans rfl, (Y1 B_1.out 11).trans rfl, (Y1 B_1.out 12).trans rfl⟩ (fun hHeld => ?_)
         clear hK K
         refine nmA 54 ?_
         refine puA 6 55 (bs 9 127) ?_
         refine one_ (i := 7) (N := none) #[true, true, true, true, true, true, true, true, false] rfl rfl (Y10 HT_.out (by kernel_rfl)) (by decide) (fun K hK => ?_)
         have hs97 : w95.cell? ⟨g_0, 0, none⟩ = some (.int .i64 0) := (Y1 B_2.out 0).trans rfl
         have hfs97 := Y4 B_2.out 0
         have hns97_0 := N_1.out
         have hns97_1 := N_0.out
         have hms97_0 := N_2.out
         have hms97_1 := N_3.out
         have hs98 : w95.cell? ⟨g_0, 1, none⟩ = some (.slice none 0 0) := (Y1 B_2.out 1).trans rfl
         have hfs98 := Y4 B_2.out 1
         have hns98_0 := N_1.out
         have hns98_1 := N_0.out
         have hms98_0 := N_2.out
         have hms98_1 := N_3.out
         refine skip_ (w1 := ?_) (by rfl) rfl ?_ ?_
         rotate_left
         ·go_simp
          rfl
         refine hK.out _ _ ⟨((Yu (p := ⟨g_0, _, none⟩) N_1.out _).trans (((Yu (p := ⟨g_0, _, none⟩) N_1.out _).trans (hHeld.1)))), ((Yu (p := ⟨g_0, _, none⟩) N_1.out _).trans (((Yu (p := ⟨g_0, _, none⟩) N_1.out _).trans (hHeld.2.1)))), ((Yu (p := ⟨g_0, _, none⟩) N_0.out _).trans (((Yu (p := ⟨g_0, _, none⟩) N_0.out _).trans (hHeld.2.2.1)))), ((Yu (p := ⟨g_0, _, none⟩) N_0.out _).trans (((Yu (p := ⟨g_0, _, none⟩) N_0.out _).trans (hHeld.2.2.2.1)))), ((Yu (p := ⟨g_0, _, none⟩) N_0.out _).trans (((Yu (p := ⟨g_0, _, none⟩) N_0.out _).trans (hHeld.2.2.2.2.1)))), ((Yu (p := ⟨g_0, _, none⟩) N_0.out _).trans (((Yu (p := ⟨g_0, _, none⟩) N_0.out _).trans (hHeld.2.2.2.2.2.1)))), ((Yu (p := ⟨g_0, _, none⟩) N_0.out _).trans (((Yu (p := ⟨g_0, _, none⟩) N_0.out _).trans (hHeld.2.2.2.2.2.2.1)))), ((Yu (p := ⟨g_0, _, none⟩) N_0.out _).trans (((Yu (p := ⟨g_0, _, none⟩) N_0.out _).trans (hHeld.2.2.2.2.2.2.2.1)))), ((Yu (p := ⟨g_0, _, none⟩) N_0.out _).trans (((Yu (p := ⟨g_0, _, none⟩) N_0.out _).trans (hHeld.2.2.2.2.2.2.2.2.1)))), ((Yu (p := ⟨g_0, _, none⟩) N_0.out _).trans (((Yu (p := ⟨g_0, _, none⟩) N_0.out _).trans (hHeld.2.2.2.2.2.2.2.2.2.1)))), ((Yu (p := ⟨g_0, _, none⟩) N_0.out _).trans (((Yu (p := ⟨g_0, _, none⟩) N_0.out _).trans (hHeld.2.2.2.2.2.2.2.2.2.2.1)))), ((Yu (p := ⟨g_0, _, none⟩) N_0.out _).trans (((Yu (p := ⟨g_0, _, none⟩) N_0.out _).trans (hHeld.2.2.2.2.2.2.2.2.2.2.2.1)))), ((Yu (p := ⟨g_0, _, none⟩) N_0.out _).trans (((Yu (p := ⟨g_0, _, none⟩) N_0.out _).trans (hHeld.2.2.2.2.2.2.2.2.2.2.2.2.1)))), ((Yu (p := ⟨g_0, _, none⟩) N_0.out _).trans (((Yu (p := ⟨g_0, _, none⟩) N_0.out _).trans (hHeld.2.2.2.2.2.2.2.2.2.2.2.2.2.1)))), ((Yu (p := ⟨g_0, _, none⟩) N_0.out _).trans (((Yu (p := ⟨g_0, _, none⟩) N_0.out _).trans (hHeld.2.2.2.2.2.2.2.2.2.2.2.2.2.2))))⟩ (fun hHeld => ?_)
         clear hK K
         refine puA 8 5 (bs 9 511) ?_
         refine done_ (Y1n HT_.out (by kernel_rfl)) ?_
         try go_wp2
         refine bodyPost_ret (Y16 rfl _ _ g_0 24 #[.int .i64 a0_0, .slice Ao96 t_3.length co96] (0, 0) _ rfl (by (with_reducible repeat (first | refine Yd ?_ _ | refine Ya ?_ | refine Y9 ?_ _)); refine Yw (cs := #[.int .i64 a0_0, .slice none 0 0]) ?_ 1 _ rfl; (with_reducible repeat (first | refine Yd ?_ _ | refine Ya ?_ | refine Y9 ?_ _)); refine Yw (cs := #[.int .i64 0, .slice none 0 0]) ?_ 0 _ rfl; (with_reducible repeat (first | refine Yd ?_ _ | refine Ya ?_ | refine Y9 ?_ _)); exact B_2.out) Try.underlying24 rfl (by kernel_rfl)) rfl ?_
         exact ⟨_, reT, by (with_reducible repeat (first | apply Kd.R_alloc | apply Kd.R_drewN | apply Kd.R_drew)); exact Kd.R_mono (Kd.R_far (p := ⟨g_0, 1, none⟩) (Kd.R_far (p := ⟨g_0, 0, none⟩) (Kd.R_types O_0.out B_2.out (by decide)) (fun _ hk => hk.2) (.int .i64 a0_0)) (fun _ hk => hk.2) (.slice Ao96 t_3.length co96)) (fun _ hk => trivial), hU HB.out⟩
  ·rw [if_neg c6] at H
   have c6b0 := bqF c6
   have c6b1 := bnT c6
   simp only [Option.some.injEq, Prod.mk.injEq] at H
   obtain ⟨rfl, rfl, rfl⟩ := H
   go_enter Try.func20, Try.ntmps20
   go_wp2_with (first | ((with_reducible refine Yf (N := 2) rfl ?_); refine Yi ?hg (N := 2) ?hd (cs := #[.int .i64 a0_0, .slice A0_1 l0_1.length c0_1]) (t := 24) ?hr ?_; (case hd => rfl); (case hg => rfl); (case hr => first | (go_simp; done) | (go_simp; rfl)); intro g_2 hg w99 hbox hb; have n0_ := Y0.mk (Y6 (hU HB.out) hb); have n1_ := Y0.mk (hbox); have n2_ := gE hg HB; have n3_ := gE hg HB; clear HB; have HB := n0_; have B_0 := n1_; have W_1 := n2_; have G_1 := n3_; clear n0_ n1_ n2_ n3_; clear hb hbox hg) | ((with_reducible refine Yf (N := 3) rfl ?_); refine Yi ?hg (N := 3) ?hd (cs := #[.int .i64 a1_0, .int .i64 a1_1, .int .i64 a1_2, .int .i64 a1_3, .int .i64 a1_4, .bool a1_5, .int .i64 a1_6, .int .i64 a1_7, .int .i64 a1_8, .int .i64 a1_9, .int .i64 a1_10, .int .i64 a1_11, .int .i64 a1_12]) (t := 30) ?hr ?_; (case hd => rfl); (case hg => rfl); (case hr => first | (go_simp; done) | (go_simp; rfl)); intro g_1 hg w100 hbox hb; have n0_ := Y0.mk (Y2 (bU B_0.out) hb); have n1_ := Y0.mk (Y6 (hU HB.out) hb); have n2_ := Y0.mk (hbox); have n3_ := gE hg HB; have n4_ := gE hg HB; have n5_ := gL hg B_0; have n6_ := gG hg B_0; clear B_0; clear HB; have B_0 := n0_; have HB := n1_; have B_1 := n2_; have W_0 := n3_; have G_0 := n4_; have N_5 := n5_; have N_4 := n6_; clear n0_ n1_ n2_ n3_ n4_ n5_ n6_; clear hb hbox hg) | ((with_reducible refine Yf (N := 4) rfl ?_); refine Yi ?hg (N := 4) ?hd (cs := #[.int .i64 0, .slice none 0 0]) (t := 24) ?hr ?_; (case hd => rfl); (case hg => rfl); (case hr => first | (go_simp; done) | (go_simp; rfl)); intro g_0 hg w101 hbox hb; have n0_ := Y0.mk (Y2 (bU B_0.out) hb); have n1_ := Y0.mk (Y2 (bU B_1.out) hb); have n2_ := Y0.mk (Y6 (hU HB.out) hb); have n3_ := Y0.mk (hbox); have n4_ := gE hg HB; have n5_ := gE hg HB; have n6_ := gL hg B_0; have n7_ := gG hg B_0; have n8_ := gL hg B_1; have n9_ := gG hg B_1; clear B_0; clear B_1; clear HB; have B_0 := n0_; have B_1 := n1_; have HB := n2_; have B_2 := n3_; have W_2 := n4_; have G_2 := n5_; have N_1 := n6_; have N_2 := n7_; have N_0 := n8_; have N_3 := n9_; clear n0_ n1_ n2_ n3_ n4_ n5_ n6_ n7_ n8_ n9_; clear hb hbox hg; have hnb102 := N_5.out; have hnc102 := N_4.out; have hnb103 := N_1.out; have hnc103 := N_2.out; have z_3b := Y1 B_0.out; have f_1w := Y4 B_0.out) | ((with_reducible refine Yb (f := 34) rfl ?_); refine goesA (some 9) Try.func34 #[.agg #[.int .i64 a0_0, .slice A0_1 l0_1.length c0_1]] ?_; (with_reducible refine (Y7.calls k a0_0 _ _ l0_1 t_0 _ ?side1 ?side2 A3.out).mono ?_); (case side1 => repeat (first | exact (Kd.C_below HR0_1.out HB.out) | (with_reducible refine Kd.C_alloc ?_ _) | (with_reducible refine Kd.C_drewN ?_ _) | (with_reducible refine Kd.C_drew ?_))); (case side2 => exact HC0_1.out); rintro e w105 ⟨rfl, hb⟩; refine ⟨_, rfl, ?_⟩; replace B_0 := Y0.mk (Y2 (bU B_0.out) hb); replace B_1 := Y0.mk (Y2 (bU B_1.out) hb); replace B_2 := Y0.mk (Y2 (bU B_2.out) hb); replace HB := Y0.mk (Y6 (hU HB.out) hb); (try clear hb); (try clear hb2); (try clear hk); (try clear hi); have hnb106 := N_0.out; have hnc106 := N_3.out; have z_4p := Y1 B_1.out; have f_3w := Y4 B_1.out) | ((with_reducible refine Yb (f := 59) rfl ?_); refine goesA (some 15) Try.func59 #[.agg #[.int .i64 a1_0, .int .i64 a1_1, .int .i64 a1_2, .int .i64 a1_3, .int .i64 a1_4, .bool a1_5, .int .i64 a1_6, .int .i64 a1_7, .int .i64 a1_8, .int .i64 a1_9, .int .i64 a1_10, .int .i64 a1_11, .int .i64 a1_12]] ?_; (with_reducible refine (Ye.calls k a1_0 a1_1 a1_2 a1_3 a1_4 a1_5 a1_6 a1_7 a1_8 a1_9 a1_10 a1_11 a1_12 t_1 _ A5.out).mono ?_); rintro e w108 ⟨rfl, hb⟩; refine ⟨_, rfl, ?_⟩; replace B_0 := Y0.mk (Y2 (bU B_0.out) hb); replace B_1 := Y0.mk (Y2 (bU B_1.out) hb); replace B_2 := Y0.mk (Y2 (bU B_2.out) hb); replace HB := Y0.mk (Y6 (hU HB.out) hb); (try clear hb); (try clear hb2); (try clear hk); (try clear hi); have z_2o := Y1 B_2.out; have f_12 := Y4 B_2.out))
   refine bodyPost_ret (Y16 rfl _ _ g_0 24 #[.int .i64 0, .slice none 0 0] (0, 0) _ rfl (by (with_reducible repeat (first | refine Yd ?_ _ | refine Ya ?_ | refine Y9 ?_ _)); refine Yw (cs := #[.int .i64 0, .slice none 0 0]) ?_ 1 _ rfl; (with_reducible repeat (first | refine Yd ?_ _ | refine Ya ?_ | refine Y9 ?_ _)); refine Yw (cs := #[.int .i64 0, .slice none 0 0]) ?_ 0 _ rfl; (with_reducible repeat (first | refine Yd ?_ _ | refine Ya ?_ | refine Y9 ?_ _)); exact B_2.out) Try.underlying24 rfl (by kernel_rfl)) rfl ?_
   exact ⟨_, reT, by first | exact Kd.R_nil _ _ _ _ _ | exact Kd.N_nil _ _ _ _ _ | exact Kd.V_nil _ _ _ _ _ | exact Kd.Q_nil _ _ _ _ _ | exact Kd.S_nil _ _ _ _ _, hU HB.out⟩
 ·rw [if_neg c4] at H
  have c4b0 := bqF c4
  have c4b1 := bnT c4
  simp only [Option.some.injEq, Prod.mk.injEq] at H
  obtain ⟨rfl, rfl, rfl⟩ := H
  go_enter Try.func20, Try.ntmps20
  go_wp2_with (first | ((with_reducible refine Yf (N := 2) rfl ?_); refine Yi ?hg (N := 2) ?hd (cs := #[.int .i64 a0_0, .slice A0_1 l0_1.length c0_1]) (t := 24) ?hr ?_; (case hd => rfl); (case hg => rfl); (case hr => first | (go_simp; done) | (go_simp; rfl)); intro g_2 hg w110 hbox hb; have n0_ := Y0.mk (Y6 (hU HB.out) hb); have n1_ := Y0.mk (hbox); have n2_ := gE hg HB; have n3_ := gE hg HB; clear HB; have HB := n0_; have B_0 := n1_; have W_1 := n2_; have G_1 := n3_; clear n0_ n1_ n2_ n3_; clear hb hbox hg) | ((with_reducible refine Yf (N := 3) rfl ?_); refine Yi ?hg (N := 3) ?hd (cs := #[.int .i64 a1_0, .int .i64 a1_1, .int .i64 a1_2, .int .i64 a1_3, .int .i64 a1_4, .bool a1_5, .int .i64 a1_6, .int .i64 a1_7, .int .i64 a1_8, .int .i64 a1_9, .int .i64 a1_10, .int .i64 a1_11, .int .i64 a1_12]) (t := 30) ?hr ?_; (case hd => rfl); (case hg => rfl); (case hr => first | (go_simp; done) | (go_simp; rfl)); intro g_1 hg w111 hbox hb; have n0_ := Y0.mk (Y2 (bU B_0.out) hb); have n1_ := Y0.mk (Y6 (hU HB.out) hb); have n2_ := Y0.mk (hbox); have n3_ := gE hg HB; have n4_ := gE hg HB; have n5_ := gL hg B_0; have n6_ := gG hg B_0; clear B_0; clear HB; have B_0 := n0_; have HB := n1_; have B_1 := n2_; have W_0 := n3_; have G_0 := n4_; have N_5 := n5_; have N_4 := n6_; clear n0_ n1_ n2_ n3_ n4_ n5_ n6_; clear hb hbox hg) | ((with_reducible refine Yf (N := 4) rfl ?_); refine Yi ?hg (N := 4) ?hd (cs := #[.int .i64 0, .slice none 0 0]) (t := 24) ?hr ?_; (case hd => rfl); (case hg => rfl); (case hr => first | (go_simp; done) | (go_simp; rfl)); intro g_0 hg w112 hbox hb; have n0_ := Y0.mk (Y2 (bU B_0.out) hb); have n1_ := Y0.mk (Y2 (bU B_1.out) hb); have n2_ := Y0.mk (Y6 (hU HB.out) hb); have n3_ := Y0.mk (hbox); have n4_ := gE hg HB; have n5_ := gE hg HB; have n6_ := gL hg B_0; have n7_ := gG hg B_0; have n8_ := gL hg B_1; have n9_ := gG hg B_1; clear B_0; clear B_1; clear HB; have B_0 := n0_; have B_1 := n1_; have HB := n2_; have B_2 := n3_; have W_2 := n4_; have G_2 := n5_; have N_1 := n6_; have N_2 := n7_; have N_0 := n8_; have N_3 := n9_; clear n0_ n1_ n2_ n3_ n4_ n5_ n6_ n7_ n8_ n9_; clear hb hbox hg; have hnb113 := N_5.out; have hnc113 := N_4.out; have hnb114 := N_1.out; have hnc114 := N_2.out; have z_4l := Y1 B_0.out; have f_4t := Y4 B_0.out) | ((with_reducible refine Yb (f := 34) rfl ?_); refine goesA (some 9) Try.func34 #[.agg #[.int .i64 a0_0, .slice A0_1 l0_1.length c0_1]] ?_; (with_reducible refine (Y7.calls k a0_0 _ _ l0_1 t_0 _ ?side1 ?side2 A3.out).mono ?_); (case side1 => repeat (first | exact (Kd.C_below HR0_1.out HB.out) | (with_reducible refine Kd.C_alloc ?_ _) | (with_reducible refine Kd.C_drewN ?_ _) | (with_reducible refine Kd.C_drew ?_))); (case side2 => exact HC0_1.out); rintro e w116 ⟨rfl, hb⟩; refine ⟨_, rfl, ?_⟩; replace B_0 := Y0.mk (Y2 (bU B_0.out) hb); replace B_1 := Y0.mk (Y2 (bU B_1.out) hb); replace B_2 := Y0.mk (Y2 (bU B_2.out) hb); replace HB := Y0.mk (Y6 (hU HB.out) hb); (try clear hb); (try clear hb2); (try clear hk); (try clear hi); have hnb117 := N_3.out; have hnc117 := N_0.out; have z_2p := Y1 B_2.out; have f_1a := Y4 B_2.out))
  refine bodyPost_ret (Y16 rfl _ _ g_0 24 #[.int .i64 0, .slice none 0 0] (0, 0) _ rfl (by (with_reducible repeat (first | refine Yd ?_ _ | refine Ya ?_ | refine Y9 ?_ _)); refine Yw (cs := #[.int .i64 0, .slice none 0 0]) ?_ 1 _ rfl; (with_reducible repeat (first | refine Yd ?_ _ | refine Ya ?_ | refine Y9 ?_ _)); refine Yw (cs := #[.int .i64 0, .slice none 0 0]) ?_ 0 _ rfl; (with_reducible repeat (first | refine Yd ?_ _ | refine Ya ?_ | refine Y9 ?_ _)); exact B_2.out) Try.underlying24 rfl (by kernel_rfl)) rfl ?_
  exact ⟨_, reT, by first | exact Kd.R_nil _ _ _ _ _ | exact Kd.N_nil _ _ _ _ _ | exact Kd.V_nil _ _ _ _ _ | exact Kd.Q_nil _ _ _ _ _ | exact Kd.S_nil _ _ _ _ _, hU HB.out⟩
end Go.Proofs.Yteopkkoblbmggaa.P
end

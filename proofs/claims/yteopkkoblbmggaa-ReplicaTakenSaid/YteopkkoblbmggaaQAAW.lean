/- Texts of this claim in one: VP53; no condition. -/
import Derived.Test.YteopkkoblbmggaaQAAC
import Derived.Test.YteopkkoblbmggaaQAAE
import Derived.Test.YteopkkoblbmggaaQAAO
import Derived.Test.YteopkkoblbmggaaQAAN
import Derived.Test.YteopkkoblbmggaaQAAM
import Derived.Test.YteopkkoblbmggaaQAAV
section
namespace Go.Proofs.Yteopkkoblbmggaa.P
open Go.RowKit Go.Proofs.YteopkkoblbmggaaW.PrintWords Go.Proofs.YteopkkoblbmggaaW.PrintLast Go.Proofs.YteopkkoblbmggaaW.PrintMore
attribute [local go_sem] YR YT Y11 Y12 YI YJ YS YU
set_option linter.unusedVariables false
set_option linter.unusedSimpArgs false
attribute [local go_sem high] eqA26 eqA28
mutual
def Ya.l0 : Nat → Int → List (S28) → List (S26) → Int → Int → Int → Int → List (S30) → Option (Bool)
 | 0, _, _, _, _, _, _, _, _ => none
 | k + 1, x1, x7, x8, x10, x11, x12, x_1, x_0 => if x12 < (x_0.length : Int) then (if 0 ≤ x12 then (Ya.l1 k x1 x7 x8 x10 x11 x12 (((Y8 x_0 x12).f1) == x1) 0 x_1 x_0 ((Y8 x_0 x12).f0.f0) ((Y8 x_0 x12).f0.f1) ((Y8 x_0 x12).f1) ((Y8 x_0 x12).f2.f0) ((Y8 x_0 x12).f2.f1) ((Y8 x_0 x12).f3) ((Y8 x_0 x12).f4.f0) ((Y8 x_0 x12).f4.f1) ((Y8 x_0 x12).f4.f2) ((Y8 x_0 x12).f4.f3) ((Y8 x_0 x12).f4.f4) ((Y8 x_0 x12).f4.f5) ((Y8 x_0 x12).f4.f6)) else (none)) else (if x10 = (wrap64 ((x7.length : Int) + (x8.length : Int))) then (if x11 = (x7.length : Int) then ((Y9.f k).bind fun t_e => (some t_e)) else (none)) else (none))
def Ya.l1 : Nat → Int → List (S28) → List (S26) → Int → Int → Int → Bool → Int → Int → List (S30) → Int → Int → Int → Int → Int → Bool → Int → Int → Int → Int → Int → Int → Int → Option (Bool)
 | 0, _, _, _, _, _, _, _, _, _, _, _, _, _, _, _, _, _, _, _, _, _, _, _ => none
 | k + 1, x1, x7, x8, x10, x11, x12, x14, x15, x_1, x_0, x_j, x_7, x_g, x_3, x_2, x_f, x_l, x_b, x_c, x_9, x_e, x_8, x_6 => if x15 < x12 then (if x14 = true then (if 0 ≤ x15 then (if x15 < (x_0.length : Int) then (if ((Y8 x_0 x15).f1) = x1 then (Ya.l1 k x1 x7 x8 x10 x11 x12 (!(((Y8 x_0 x15).f2.f0) == x_3 && (((Y8 x_0 x15).f2.f1) == x_2))) (wrap64 (x15 + 1)) x_1 x_0 x_j x_7 x_g x_3 x_2 x_f x_l x_b x_c x_9 x_e x_8 x_6) else (Ya.l1 k x1 x7 x8 x10 x11 x12 (!false) (wrap64 (x15 + 1)) x_1 x_0 x_j x_7 x_g x_3 x_2 x_f x_l x_b x_c x_9 x_e x_8 x_6)) else (none)) else (none)) else (Ya.l1 k x1 x7 x8 x10 x11 x12 false (wrap64 (x15 + 1)) x_1 x_0 x_j x_7 x_g x_3 x_2 x_f x_l x_b x_c x_9 x_e x_8 x_6)) else (if x14 = true then ((YD.f x_1 x_0 x1 x_3 x_2).bind fun b_1 => (if b_1.2.2.2.2.2.2.2.2 = 0 then (if b_1.2.2.2.2.2.2.2.1 = true then (Ya.l2 k x1 x7 x8 (wrap64 (x10 + 1)) x11 x12 false 0 x_1 x_0 x_j x_7 x_g x_3 x_2 x_f x_l x_b x_c x_9 x_e x_8 x_6 b_1.1 b_1.2.1 b_1.2.2.1 b_1.2.2.2.1 b_1.2.2.2.2.1 b_1.2.2.2.2.2.1 b_1.2.2.2.2.2.2.1) else (Ya.l0 k x1 x7 x8 x10 x11 (wrap64 (x12 + 1)) x_1 x_0)) else (none))) else (Ya.l0 k x1 x7 x8 x10 x11 (wrap64 (x12 + 1)) x_1 x_0))
def Ya.l2 : Nat → Int → List (S28) → List (S26) → Int → Int → Int → Bool → Int → Int → List (S30) → Int → Int → Int → Int → Int → Bool → Int → Int → Int → Int → Int → Int → Int → Int → Int → Int → Int → Int → Int → Int → Option (Bool)
 | 0, _, _, _, _, _, _, _, _, _, _, _, _, _, _, _, _, _, _, _, _, _, _, _, _, _, _, _, _, _, _ => none
 | k + 1, x1, x7, x8, x10, x11, x12, x19, x20, x_1, x_0, x_j, x_7, x_g, x_3, x_2, x_f, x_l, x_b, x_c, x_9, x_e, x_8, x_6, x_a, x_k, x_5, x_4, x_h, x_i, x_d => if x20 < (x8.length : Int) then (if x19 = true then (Ya.l2 k x1 x7 x8 x10 x11 x12 true (wrap64 (x20 + 1)) x_1 x_0 x_j x_7 x_g x_3 x_2 x_f x_l x_b x_c x_9 x_e x_8 x_6 x_a x_k x_5 x_4 x_h x_i x_d) else (if 0 ≤ x20 then (Ya.l2 k x1 x7 x8 x10 x11 x12 (((Y1s x8 x20).f0) == x_3 && (((Y1s x8 x20).f1) == x_2)) (wrap64 (x20 + 1)) x_1 x_0 x_j x_7 x_g x_3 x_2 x_f x_l x_b x_c x_9 x_e x_8 x_6 x_a x_k x_5 x_4 x_h x_i x_d) else (none))) else (Ya.l3 k x1 x7 x8 x10 x11 x12 x19 0 x_1 x_0 x_a x_k x_5 x_4 x_h x_i x_d)
def Ya.l3 : Nat → Int → List (S28) → List (S26) → Int → Int → Int → Bool → Int → Int → List (S30) → Int → Int → Int → Int → Int → Int → Int → Option (Bool)
 | 0, _, _, _, _, _, _, _, _, _, _, _, _, _, _, _, _, _ => none
 | k + 1, x1, x7, x8, x10, x11, x12, x19, x21, x_1, x_0, x_a, x_k, x_5, x_4, x_h, x_i, x_d => if x21 < (x7.length : Int) then (if x19 = true then (Ya.l0 k x1 x7 x8 x10 x11 (wrap64 (x12 + 1)) x_1 x_0) else (if 0 ≤ x21 then (if (((Yo x7 x21).f0) == x_a && (((Yo x7 x21).f1) == x_k && (((Yo x7 x21).f2) == x_5 && (((Yo x7 x21).f3) == x_4 && (((Yo x7 x21).f4) == x_h && (((Yo x7 x21).f5) == x_i && (((Yo x7 x21).f6) == x_d))))))) = true then (Ya.l3 k x1 x7 x8 x10 (wrap64 (x11 + 1)) x12 x19 (wrap64 (x21 + 1)) x_1 x_0 x_a x_k x_5 x_4 x_h x_i x_d) else (Ya.l3 k x1 x7 x8 x10 x11 x12 x19 (wrap64 (x21 + 1)) x_1 x_0 x_a x_k x_5 x_4 x_h x_i x_d)) else (none))) else (Ya.l0 k x1 x7 x8 x10 x11 (wrap64 (x12 + 1)) x_1 x_0)
end
def Ya.f (k : Nat) (a0_0 : Int) (l0_1 : List (S30)) (a1 : Int) (a2 : Int) : Option (Bool) := (Yg.f a0_0 l0_1).bind fun t_f => (if t_f = true then ((Y9.f k).bind fun t_9 => (some t_9)) else ((Yt.f a0_0 l0_1 a1 a2).bind fun b_0 => (if b_0.2.2 = 0 then ((Y1w.f b_0.1 a2).bind fun t_a => (if t_a = 0 then (Ya.l0 k a1 b_0.1 b_0.2.1 0 0 0 a0_0 l0_1) else (none))) else (if (b_0.1.length : Int) = 0 then (if (b_0.2.1.length : Int) = 0 then ((Y9.f k).bind fun t_b => (some t_b)) else (none)) else (none)))))
theorem Ya.mono_l : ∀ k, (∀ y0 y1 y2 y3 y4 y5 y6 y7, LeO (Ya.l0 k y0 y1 y2 y3 y4 y5 y6 y7) (Ya.l0 (k + 1) y0 y1 y2 y3 y4 y5 y6 y7)) ∧ (∀ y0 y1 y2 y3 y4 y5 y6 y7 y8 y9 y10 y11 y12 y13 y14 y15 y16 y17 y18 y19 y20 y21 y22, LeO (Ya.l1 k y0 y1 y2 y3 y4 y5 y6 y7 y8 y9 y10 y11 y12 y13 y14 y15 y16 y17 y18 y19 y20 y21 y22) (Ya.l1 (k + 1) y0 y1 y2 y3 y4 y5 y6 y7 y8 y9 y10 y11 y12 y13 y14 y15 y16 y17 y18 y19 y20 y21 y22)) ∧ (∀ y0 y1 y2 y3 y4 y5 y6 y7 y8 y9 y10 y11 y12 y13 y14 y15 y16 y17 y18 y19 y20 y21 y22 y23 y24 y25 y26 y27 y28 y29, LeO (Ya.l2 k y0 y1 y2 y3 y4 y5 y6 y7 y8 y9 y10 y11 y12 y13 y14 y15 y16 y17 y18 y19 y20 y21 y22 y23 y24 y25 y26 y27 y28 y29) (Ya.l2 (k + 1) y0 y1 y2 y3 y4 y5 y6 y7 y8 y9 y10 y11 y12 y13 y14 y15 y16 y17 y18 y19 y20 y21 y22 y23 y24 y25 y26 y27 y28 y29)) ∧ (∀ y0 y1 y2 y3 y4 y5 y6 y7 y8 y9 y10 y11 y12 y13 y14 y15 y16, LeO (Ya.l3 k y0 y1 y2 y3 y4 y5 y6 y7 y8 y9 y10 y11 y12 y13 y14 y15 y16) (Ya.l3 (k + 1) y0 y1 y2 y3 y4 y5 y6 y7 y8 y9 y10 y11 y12 y13 y14 y15 y16))
 | 0 => ⟨fun _ _ _ _ _ _ _ _ r h => by simp [Ya.l0] at h, fun _ _ _ _ _ _ _ _ _ _ _ _ _ _ _ _ _ _ _ _ _ _ _ r h => by simp [Ya.l1] at h, fun _ _ _ _ _ _ _ _ _ _ _ _ _ _ _ _ _ _ _ _ _ _ _ _ _ _ _ _ _ _ r h => by simp [Ya.l2] at h, fun _ _ _ _ _ _ _ _ _ _ _ _ _ _ _ _ _ r h => by simp [Ya.l3] at h⟩
 | k + 1 => by
  obtain ⟨ih0, ih1, ih2, ih3⟩ := Ya.mono_l k
  refine ⟨?_, ?_, ?_, ?_⟩
  ·intro y0 y1 y2 y3 y4 y5 y6 y7
   unfold Ya.l0
   repeat' first
   | (with_reducible exact ih0 _ _ _ _ _ _ _ _)
   | (with_reducible exact ih1 _ _ _ _ _ _ _ _ _ _ _ _ _ _ _ _ _ _ _ _ _ _ _)
   | (with_reducible exact ih2 _ _ _ _ _ _ _ _ _ _ _ _ _ _ _ _ _ _ _ _ _ _ _ _ _ _ _ _ _ _)
   | (with_reducible exact ih3 _ _ _ _ _ _ _ _ _ _ _ _ _ _ _ _ _)
   | (with_reducible exact Y9.mono _)
   | (with_reducible exact LeO.refl _)
   | (with_reducible exact LeO.none _)
   | (with_reducible refine LeO.ite ?_ ?_)
   | (with_reducible refine LeO.bind ?_ (fun _ => ?_))
  ·intro y0 y1 y2 y3 y4 y5 y6 y7 y8 y9 y10 y11 y12 y13 y14 y15 y16 y17 y18 y19 y20 y21 y22
   unfold Ya.l1
   repeat' first
   | (with_reducible exact ih0 _ _ _ _ _ _ _ _)
   | (with_reducible exact ih1 _ _ _ _ _ _ _ _ _ _ _ _ _ _ _ _ _ _ _ _ _ _ _)
   | (with_reducible exact ih2 _ _ _ _ _ _ _ _ _ _ _ _ _ _ _ _ _ _ _ _ _ _ _ _ _ _ _ _ _ _)
   | (with_reducible exact ih3 _ _ _ _ _ _ _ _ _ _ _ _ _ _ _ _ _)
   | (with_reducible exact Y9.mono _)
   | (with_reducible exact LeO.refl _)
   | (with_reducible exact LeO.none _)
   | (with_reducible refine LeO.ite ?_ ?_)
   | (with_reducible refine LeO.bind ?_ (fun _ => ?_))
  ·intro y0 y1 y2 y3 y4 y5 y6 y7 y8 y9 y10 y11 y12 y13 y14 y15 y16 y17 y18 y19 y20 y21 y22 y23 y24 y25 y26 y27 y28 y29
   unfold Ya.l2
   repeat' first
   | (with_reducible exact ih0 _ _ _ _ _ _ _ _)
   | (with_reducible exact ih1 _ _ _ _ _ _ _ _ _ _ _ _ _ _ _ _ _ _ _ _ _ _ _)
   | (with_reducible exact ih2 _ _ _ _ _ _ _ _ _ _ _ _ _ _ _ _ _ _ _ _ _ _ _ _ _ _ _ _ _ _)
   | (with_reducible exact ih3 _ _ _ _ _ _ _ _ _ _ _ _ _ _ _ _ _)
   | (with_reducible exact Y9.mono _)
   | (with_reducible exact LeO.refl _)
   | (with_reducible exact LeO.none _)
   | (with_reducible refine LeO.ite ?_ ?_)
   | (with_reducible refine LeO.bind ?_ (fun _ => ?_))
  ·intro y0 y1 y2 y3 y4 y5 y6 y7 y8 y9 y10 y11 y12 y13 y14 y15 y16
   unfold Ya.l3
   repeat' first
   | (with_reducible exact ih0 _ _ _ _ _ _ _ _)
   | (with_reducible exact ih1 _ _ _ _ _ _ _ _ _ _ _ _ _ _ _ _ _ _ _ _ _ _ _)
   | (with_reducible exact ih2 _ _ _ _ _ _ _ _ _ _ _ _ _ _ _ _ _ _ _ _ _ _ _ _ _ _ _ _ _ _)
   | (with_reducible exact ih3 _ _ _ _ _ _ _ _ _ _ _ _ _ _ _ _ _)
   | (with_reducible exact Y9.mono _)
   | (with_reducible exact LeO.refl _)
   | (with_reducible exact LeO.none _)
   | (with_reducible refine LeO.ite ?_ ?_)
   | (with_reducible refine LeO.bind ?_ (fun _ => ?_))
theorem Ya.mono : ∀ a0 a1 a2 a3 k, LeO (Ya.f k a0 a1 a2 a3) (Ya.f (k + 1) a0 a1 a2 a3) := by
 intro a0 a1 a2 a3 k
 obtain ⟨ih0, ih1, ih2, ih3⟩ := Ya.mono_l k
 unfold Ya.f
 repeat' first
   | (with_reducible exact ih0 _ _ _ _ _ _ _ _)
   | (with_reducible exact ih1 _ _ _ _ _ _ _ _ _ _ _ _ _ _ _ _ _ _ _ _ _ _ _)
   | (with_reducible exact ih2 _ _ _ _ _ _ _ _ _ _ _ _ _ _ _ _ _ _ _ _ _ _ _ _ _ _ _ _ _ _)
   | (with_reducible exact ih3 _ _ _ _ _ _ _ _ _ _ _ _ _ _ _ _ _)
   | (with_reducible exact Y9.mono _)
   | (with_reducible exact LeO.refl _)
   | (with_reducible exact LeO.none _)
   | (with_reducible refine LeO.ite ?_ ?_)
   | (with_reducible refine LeO.bind ?_ (fun _ => ?_))
set_option maxHeartbeats 8000000 in
set_option maxRecDepth 100000 in
theorem Ya.calls (k : Nat) (a0_0 : Int) (A0_1 : Option Addr) (c0_1 : Nat) (l0_1 : List (S30)) (a1 : Int) (a2 : Int) (r : Bool) (w : World) (hr0_1 : Kd.C k30 w A0_1 l0_1.length l0_1) (hc0_1 : l0_1.length ≤ c0_1) (h : Ya.f k a0_0 l0_1 a1 a2 = some r) :
  Calls Try.prog 8 #[.agg #[.int .i64 a0_0, .slice A0_1 l0_1.length c0_1], .int .i64 a1, .int .i64 a2] w fun e w' => e = .returned (.bool r) ∧ Below w.heap.size w w' := by
 have hu24 := Try.underlying24
 have hu30 := Try.underlying30
 have hu26 := Try.underlying26
 have hu28 := Try.underlying28
 have HR0_1 := Y0.mk hr0_1
 have HC0_1 := Y0.mk hc0_1
 clear hr0_1 hc0_1
 have HB := Y0.mk (Below.refl w.heap.size w)
 have H : ((Yg.f a0_0 l0_1).bind fun t_f => (if t_f = true then ((Y9.f k).bind fun t_9 => (some t_9)) else ((Yt.f a0_0 l0_1 a1 a2).bind fun b_0 => (if b_0.2.2 = 0 then ((Y1w.f b_0.1 a2).bind fun t_a => (if t_a = 0 then (Ya.l0 k a1 b_0.1 b_0.2.1 0 0 0 a0_0 l0_1) else (none))) else (if (b_0.1.length : Int) = 0 then (if (b_0.2.1.length : Int) = 0 then ((Y9.f k).bind fun t_b => (some t_b)) else (none)) else (none)))))) = some r := h
 clear h
 obtain ⟨t_f, A40, H⟩ := bS H
 try dsimp only at H
 have A4 := Y0.mk A40
 clear A40
 by_cases c5 : t_f = true
 ·subst c5
  have H1 : ((Y9.f k).bind fun t_9 => (some t_9)) = some r := by rw [if_pos rfl] at H; exact H
  clear H
  have H := H1
  clear H1
  obtain ⟨t_9, A60, H⟩ := bS H
  replace H : (some t_9) = some r := H
  have A6 := Y0.mk A60
  clear A60
  obtain rfl := Option.some.inj H
  go_enter Try.func8, Try.ntmps8
  go_wp2_with (first | ((with_reducible refine Ye (N := 3) rfl ?_); (try (refine YC (by rfl) ?_; dsimp only)); refine Yh ?hg (N := 3) ?hd (cs := #[.int .i64 a0_0, .slice A0_1 l0_1.length c0_1]) (t := 24) ?hr ?_; (case hd => rfl); (case hg => rfl); (case hr => first | (go_simp; done) | (go_simp; rfl)); intro g_2 hg w7 hbox hb; have n0_ := Y0.mk (Y3 (hU HB.out) hb); have n1_ := Y0.mk (hbox); have n2_ := gE hg HB; have n3_ := gE hg HB; clear HB; have HB := n0_; have B_0 := n1_; have W_0 := n2_; have G_0 := n3_; clear n0_ n1_ n2_ n3_; clear hb hbox hg; have z_0 := Y2 B_0.out; have f_0 := Y7 B_0.out) | (go_at_call 22; (with_reducible refine (Yg.calls a0_0 _ _ l0_1 true _ ?side1 ?side2 A4.out).mono ?_); (case side1 => repeat (first | exact (Kd.C_below HR0_1.out HB.out) | (with_reducible refine Kd.C_alloc ?_ _) | (with_reducible refine Kd.C_drewN ?_ _) | (with_reducible refine Kd.C_drew ?_))); (case side2 => exact HC0_1.out); rintro e w9 ⟨rfl, hb⟩; replace B_0 := Y0.mk (Y1 (bU B_0.out) hb); replace HB := Y0.mk (Y3 (hU HB.out) hb); (try clear hb); (try clear hb2); (try clear hk); (try clear hi)) | (go_at_call 18; (with_reducible refine (Y9.calls k  t_9 _ A6.out).mono ?_); rintro e w10 ⟨rfl, hb⟩; replace B_0 := Y0.mk (Y1 (bU B_0.out) hb); replace HB := Y0.mk (Y3 (hU HB.out) hb); (try clear hb); (try clear hb2); (try clear hk); (try clear hi)))
  repeat (go_quiet (first | ((with_reducible refine Ye (N := 3) rfl ?_); (try (refine YC (by rfl) ?_; dsimp only)); refine Yh ?hg (N := 3) ?hd (cs := #[.int .i64 a0_0, .slice A0_1 l0_1.length c0_1]) (t := 24) ?hr ?_; (case hd => rfl); (case hg => rfl); (case hr => first | (go_simp; done) | (go_simp; rfl)); intro g_2 hg w7 hbox hb; have n0_ := Y0.mk (Y3 (hU HB.out) hb); have n1_ := Y0.mk (hbox); have n2_ := gE hg HB; have n3_ := gE hg HB; clear HB; have HB := n0_; have B_0 := n1_; have W_0 := n2_; have G_0 := n3_; clear n0_ n1_ n2_ n3_; clear hb hbox hg; have z_0 := Y2 B_0.out; have f_0 := Y7 B_0.out) | (go_at_call 22; (with_reducible refine (Yg.calls a0_0 _ _ l0_1 true _ ?side1 ?side2 A4.out).mono ?_); (case side1 => repeat (first | exact (Kd.C_below HR0_1.out HB.out) | (with_reducible refine Kd.C_alloc ?_ _) | (with_reducible refine Kd.C_drewN ?_ _) | (with_reducible refine Kd.C_drew ?_))); (case side2 => exact HC0_1.out); rintro e w9 ⟨rfl, hb⟩; replace B_0 := Y0.mk (Y1 (bU B_0.out) hb); replace HB := Y0.mk (Y3 (hU HB.out) hb); (try clear hb); (try clear hb2); (try clear hk); (try clear hi)) | (go_at_call 18; (with_reducible refine (Y9.calls k  t_9 _ A6.out).mono ?_); rintro e w10 ⟨rfl, hb⟩; replace B_0 := Y0.mk (Y1 (bU B_0.out) hb); replace HB := Y0.mk (Y3 (hU HB.out) hb); (try clear hb); (try clear hb2); (try clear hk); (try clear hi))); try go_wp2_with (first | ((with_reducible refine Ye (N := 3) rfl ?_); (try (refine YC (by rfl) ?_; dsimp only)); refine Yh ?hg (N := 3) ?hd (cs := #[.int .i64 a0_0, .slice A0_1 l0_1.length c0_1]) (t := 24) ?hr ?_; (case hd => rfl); (case hg => rfl); (case hr => first | (go_simp; done) | (go_simp; rfl)); intro g_2 hg w7 hbox hb; have n0_ := Y0.mk (Y3 (hU HB.out) hb); have n1_ := Y0.mk (hbox); have n2_ := gE hg HB; have n3_ := gE hg HB; clear HB; have HB := n0_; have B_0 := n1_; have W_0 := n2_; have G_0 := n3_; clear n0_ n1_ n2_ n3_; clear hb hbox hg; have z_0 := Y2 B_0.out; have f_0 := Y7 B_0.out) | (go_at_call 22; (with_reducible refine (Yg.calls a0_0 _ _ l0_1 true _ ?side1 ?side2 A4.out).mono ?_); (case side1 => repeat (first | exact (Kd.C_below HR0_1.out HB.out) | (with_reducible refine Kd.C_alloc ?_ _) | (with_reducible refine Kd.C_drewN ?_ _) | (with_reducible refine Kd.C_drew ?_))); (case side2 => exact HC0_1.out); rintro e w9 ⟨rfl, hb⟩; replace B_0 := Y0.mk (Y1 (bU B_0.out) hb); replace HB := Y0.mk (Y3 (hU HB.out) hb); (try clear hb); (try clear hb2); (try clear hk); (try clear hi)) | (go_at_call 18; (with_reducible refine (Y9.calls k  t_9 _ A6.out).mono ?_); rintro e w10 ⟨rfl, hb⟩; replace B_0 := Y0.mk (Y1 (bU B_0.out) hb); replace HB := Y0.mk (Y3 (hU HB.out) hb); (try clear hb); (try clear hb2); (try clear hk); (try clear hi))))
  go_ret
  exact ⟨reT, hU HB.out⟩
 ·replace c5 := Bool.eq_false_iff.mpr c5
  subst c5
  rw [if_neg (show ¬ (false = true) by decide)] at H
  obtain ⟨⟨t_0, t_6, t_c⟩, A110, H⟩ := bS H
  try dsimp only at H
  have A11 := Y0.mk A110
  clear A110
  by_cases c12 : t_c = 0
  ·rw [if_pos c12] at H
   have c12b0 := bqT c12
   have c12b1 := bnF c12
   clear c12
   obtain ⟨t_a, A130, H⟩ := bS H
   replace H : (if t_a = 0 then (Ya.l0 k a1 t_0 t_6 0 0 0 a0_0 l0_1) else (none)) = some r := H
   have A13 := Y0.mk A130
   clear A130
   obtain ⟨c14, H⟩ := iS H
   have c14b0 := bqT c14
   have c14b1 := bnF c14
   clear c14
   have H' := Y0.mk H
   clear H
   go_enter Try.func8, Try.ntmps8
   go_wp2_with (first | ((with_reducible refine Ye (N := 3) rfl ?_); (try (refine YC (by rfl) ?_; dsimp only)); refine Yh ?hg (N := 3) ?hd (cs := #[.int .i64 a0_0, .slice A0_1 l0_1.length c0_1]) (t := 24) ?hr ?_; (case hd => rfl); (case hg => rfl); (case hr => first | (go_simp; done) | (go_simp; rfl)); intro g_2 hg w15 hbox hb; have n0_ := Y0.mk (Y3 (hU HB.out) hb); have n1_ := Y0.mk (hbox); have n2_ := gE hg HB; have n3_ := gE hg HB; clear HB; have HB := n0_; have B_0 := n1_; have W_0 := n2_; have G_0 := n3_; clear n0_ n1_ n2_ n3_; clear hb hbox hg; have z_2 := Y2 B_0.out; have f_1 := Y7 B_0.out) | (go_at_call 22; (with_reducible refine (Yg.calls a0_0 _ _ l0_1 false _ ?side1 ?side2 A4.out).mono ?_); (case side1 => repeat (first | exact (Kd.C_below HR0_1.out HB.out) | (with_reducible refine Kd.C_alloc ?_ _) | (with_reducible refine Kd.C_drewN ?_ _) | (with_reducible refine Kd.C_drew ?_))); (case side2 => exact HC0_1.out); rintro e w17 ⟨rfl, hb⟩; replace B_0 := Y0.mk (Y1 (bU B_0.out) hb); replace HB := Y0.mk (Y3 (hU HB.out) hb); (try clear hb); (try clear hb2); (try clear hk); (try clear hi); have z_1 := Y2 B_0.out; have f_2 := Y7 B_0.out) | (go_at_call 23; (with_reducible refine (Yt.calls a0_0 _ _ l0_1 a1 a2 t_0 t_6 t_c _ ?side1 ?side2 A11.out).mono ?_); (case side1 => repeat (first | exact (Kd.C_below HR0_1.out HB.out) | (with_reducible refine Kd.C_alloc ?_ _) | (with_reducible refine Kd.C_drewN ?_ _) | (with_reducible refine Kd.C_drew ?_))); (case side2 => exact HC0_1.out); rintro e w19 ⟨v_1, v_0, rfl, ho0, ho1, hb⟩; replace O_0 := Y0.mk (Kd.R_lower ho0 (Yf (hU HB.out))); replace O_1 := Y0.mk (Kd.R_lower ho1 (Yf (hU HB.out))); replace B_0 := Y0.mk (Y1 (bU B_0.out) hb); replace HB := Y0.mk (Y3 (hU HB.out) hb); (try clear hb); (try clear hb2); (try clear hk); (try clear hi); (try clear ho0); (try clear ho1); obtain ⟨Ao20, co20, eo20⟩ := Kd.R_slice O_0.out; subst eo20) | (go_at_call 33; (with_reducible refine (Y1w.calls _ _ t_0 a2 t_a _ ?side1 ?side2 A13.out).mono ?_); (case side1 => repeat (first | exact (Kd.R_reads' O_0.out).2.2 | (with_reducible refine Kd.C_alloc ?_ _) | (with_reducible refine Kd.C_drewN ?_ _) | (with_reducible refine Kd.C_drew ?_))); (case side2 => exact (Kd.R_reads' O_0.out).2.1); rintro e w21 ⟨rfl, hb⟩; replace O_0 := Y0.mk (Kd.R_below (Kd.rU O_0.out) hb); replace O_1 := Y0.mk (Kd.R_below (Kd.rU O_1.out) hb); replace B_0 := Y0.mk (Y1 (bU B_0.out) hb); replace HB := Y0.mk (Y3 (hU HB.out) hb); (try clear hb); (try clear hb2); (try clear hk); (try clear hi)))
   repeat (go_quiet (first | ((with_reducible refine Ye (N := 3) rfl ?_); (try (refine YC (by rfl) ?_; dsimp only)); refine Yh ?hg (N := 3) ?hd (cs := #[.int .i64 a0_0, .slice A0_1 l0_1.length c0_1]) (t := 24) ?hr ?_; (case hd => rfl); (case hg => rfl); (case hr => first | (go_simp; done) | (go_simp; rfl)); intro g_2 hg w15 hbox hb; have n0_ := Y0.mk (Y3 (hU HB.out) hb); have n1_ := Y0.mk (hbox); have n2_ := gE hg HB; have n3_ := gE hg HB; clear HB; have HB := n0_; have B_0 := n1_; have W_0 := n2_; have G_0 := n3_; clear n0_ n1_ n2_ n3_; clear hb hbox hg; have z_2 := Y2 B_0.out; have f_1 := Y7 B_0.out) | (go_at_call 22; (with_reducible refine (Yg.calls a0_0 _ _ l0_1 false _ ?side1 ?side2 A4.out).mono ?_); (case side1 => repeat (first | exact (Kd.C_below HR0_1.out HB.out) | (with_reducible refine Kd.C_alloc ?_ _) | (with_reducible refine Kd.C_drewN ?_ _) | (with_reducible refine Kd.C_drew ?_))); (case side2 => exact HC0_1.out); rintro e w17 ⟨rfl, hb⟩; replace B_0 := Y0.mk (Y1 (bU B_0.out) hb); replace HB := Y0.mk (Y3 (hU HB.out) hb); (try clear hb); (try clear hb2); (try clear hk); (try clear hi); have z_1 := Y2 B_0.out; have f_2 := Y7 B_0.out) | (go_at_call 23; (with_reducible refine (Yt.calls a0_0 _ _ l0_1 a1 a2 t_0 t_6 t_c _ ?side1 ?side2 A11.out).mono ?_); (case side1 => repeat (first | exact (Kd.C_below HR0_1.out HB.out) | (with_reducible refine Kd.C_alloc ?_ _) | (with_reducible refine Kd.C_drewN ?_ _) | (with_reducible refine Kd.C_drew ?_))); (case side2 => exact HC0_1.out); rintro e w19 ⟨v_1, v_0, rfl, ho0, ho1, hb⟩; replace O_0 := Y0.mk (Kd.R_lower ho0 (Yf (hU HB.out))); replace O_1 := Y0.mk (Kd.R_lower ho1 (Yf (hU HB.out))); replace B_0 := Y0.mk (Y1 (bU B_0.out) hb); replace HB := Y0.mk (Y3 (hU HB.out) hb); (try clear hb); (try clear hb2); (try clear hk); (try clear hi); (try clear ho0); (try clear ho1); obtain ⟨Ao20, co20, eo20⟩ := Kd.R_slice O_0.out; subst eo20) | (go_at_call 33; (with_reducible refine (Y1w.calls _ _ t_0 a2 t_a _ ?side1 ?side2 A13.out).mono ?_); (case side1 => repeat (first | exact (Kd.R_reads' O_0.out).2.2 | (with_reducible refine Kd.C_alloc ?_ _) | (with_reducible refine Kd.C_drewN ?_ _) | (with_reducible refine Kd.C_drew ?_))); (case side2 => exact (Kd.R_reads' O_0.out).2.1); rintro e w21 ⟨rfl, hb⟩; replace O_0 := Y0.mk (Kd.R_below (Kd.rU O_0.out) hb); replace O_1 := Y0.mk (Kd.R_below (Kd.rU O_1.out) hb); replace B_0 := Y0.mk (Y1 (bU B_0.out) hb); replace HB := Y0.mk (Y3 (hU HB.out) hb); (try clear hb); (try clear hb2); (try clear hk); (try clear hi))); try go_wp2_with (first | ((with_reducible refine Ye (N := 3) rfl ?_); (try (refine YC (by rfl) ?_; dsimp only)); refine Yh ?hg (N := 3) ?hd (cs := #[.int .i64 a0_0, .slice A0_1 l0_1.length c0_1]) (t := 24) ?hr ?_; (case hd => rfl); (case hg => rfl); (case hr => first | (go_simp; done) | (go_simp; rfl)); intro g_2 hg w15 hbox hb; have n0_ := Y0.mk (Y3 (hU HB.out) hb); have n1_ := Y0.mk (hbox); have n2_ := gE hg HB; have n3_ := gE hg HB; clear HB; have HB := n0_; have B_0 := n1_; have W_0 := n2_; have G_0 := n3_; clear n0_ n1_ n2_ n3_; clear hb hbox hg; have z_2 := Y2 B_0.out; have f_1 := Y7 B_0.out) | (go_at_call 22; (with_reducible refine (Yg.calls a0_0 _ _ l0_1 false _ ?side1 ?side2 A4.out).mono ?_); (case side1 => repeat (first | exact (Kd.C_below HR0_1.out HB.out) | (with_reducible refine Kd.C_alloc ?_ _) | (with_reducible refine Kd.C_drewN ?_ _) | (with_reducible refine Kd.C_drew ?_))); (case side2 => exact HC0_1.out); rintro e w17 ⟨rfl, hb⟩; replace B_0 := Y0.mk (Y1 (bU B_0.out) hb); replace HB := Y0.mk (Y3 (hU HB.out) hb); (try clear hb); (try clear hb2); (try clear hk); (try clear hi); have z_1 := Y2 B_0.out; have f_2 := Y7 B_0.out) | (go_at_call 23; (with_reducible refine (Yt.calls a0_0 _ _ l0_1 a1 a2 t_0 t_6 t_c _ ?side1 ?side2 A11.out).mono ?_); (case side1 => repeat (first | exact (Kd.C_below HR0_1.out HB.out) | (with_reducible refine Kd.C_alloc ?_ _) | (with_reducible refine Kd.C_drewN ?_ _) | (with_reducible refine Kd.C_drew ?_))); (case side2 => exact HC0_1.out); rintro e w19 ⟨v_1, v_0, rfl, ho0, ho1, hb⟩; replace O_0 := Y0.mk (Kd.R_lower ho0 (Yf (hU HB.out))); replace O_1 := Y0.mk (Kd.R_lower ho1 (Yf (hU HB.out))); replace B_0 := Y0.mk (Y1 (bU B_0.out) hb); replace HB := Y0.mk (Y3 (hU HB.out) hb); (try clear hb); (try clear hb2); (try clear hk); (try clear hi); (try clear ho0); (try clear ho1); obtain ⟨Ao20, co20, eo20⟩ := Kd.R_slice O_0.out; subst eo20) | (go_at_call 33; (with_reducible refine (Y1w.calls _ _ t_0 a2 t_a _ ?side1 ?side2 A13.out).mono ?_); (case side1 => repeat (first | exact (Kd.R_reads' O_0.out).2.2 | (with_reducible refine Kd.C_alloc ?_ _) | (with_reducible refine Kd.C_drewN ?_ _) | (with_reducible refine Kd.C_drew ?_))); (case side2 => exact (Kd.R_reads' O_0.out).2.1); rintro e w21 ⟨rfl, hb⟩; replace O_0 := Y0.mk (Kd.R_below (Kd.rU O_0.out) hb); replace O_1 := Y0.mk (Kd.R_below (Kd.rU O_1.out) hb); replace B_0 := Y0.mk (Y1 (bU B_0.out) hb); replace HB := Y0.mk (Y3 (hU HB.out) hb); (try clear hb); (try clear hb2); (try clear hk); (try clear hi))))
   go_loopg [10, 11, 12] k (fun kq v10 v11 v12 w' => ∃ (x10_1 : Int) (x11_1 : Int) (x12_1 : Int), v10 = .int .i64 x10_1 ∧ v11 = .int .i64 x11_1 ∧ v12 = .int .i64 x12_1 ∧ Y0 (Ya.l0 kq a1 t_0 t_6 x10_1 x11_1 x12_1 a0_0 l0_1 = some r) ∧ Y0 (kq ≤ k) ∧ Y0 (Kd.R k28 28 w' w.heap.size (fun _ => True) (.slice Ao20 t_0.length co20) t_0) ∧ Y0 (Kd.R k26 26 w' w.heap.size (fun _ => True) v_0 t_6) ∧ Y0 (w'.heap[g_2]? = some (.cells #[.int .i64 a0_0, (.slice A0_1 l0_1.length c0_1)] 24 (0, 0))) ∧ Y0 (Below w.heap.size w w'))
   case atStart => exact ⟨(0), (0), (0), reS, reS, reS, H', ⟨Nat.le_refl _⟩, ⟨by (with_reducible repeat (first | apply Kd.R_alloc | apply Kd.R_drewN | apply Kd.R_drew)); exact O_0.out⟩, ⟨by (with_reducible repeat (first | apply Kd.R_alloc | apply Kd.R_drewN | apply Kd.R_drew)); exact O_1.out⟩, ⟨kB B_0⟩, ⟨hU HB.out⟩⟩
   case round =>
    clear H'
    try clear c1
    try clear p2
    try clear c5
    try clear c8
    try clear c12
    try clear c12b0
    try clear c12b1
    try clear c14
    try clear c14b0
    try clear c14b1
    try clear z_2
    try clear z_6
    try clear z_1
    try clear z_8
    try clear z_0
    try clear z_7
    try clear f_1
    try clear f_5
    try clear f_2
    try clear f_6
    try clear f_0
    try clear f_8
    obtain ⟨x10_1, x11_1, x12_1, rfl, rfl, rfl, HA, HK1, HO_7, HO_8, B_0, HB⟩ := hrel
    cases gk with
    | zero => exact absurd HA.out (by simp [Ya.l0])
    | succ k1 =>
     have H := HA.out
     clear HA
     simp only [Ya.l0] at H
     by_cases c22 : x12_1 < (l0_1.length : Int)
     ·rw [if_pos c22] at H
      have c22b0 := decide_eq_true c22
      clear c22
      obtain ⟨c23, H⟩ := iS H
      have c23b0 := decide_eq_true c23
      clear c23
      have H' := Y0.mk H
      clear H
      have z_5 := Y2 B_0.out
      have f_7 := Y7 B_0.out
      have p920 : 0 ≤ (x12_1 : Int) := of_decide_eq_true (by first | (with_reducible assumption) | assumption)
      have q920 : x12_1 < (l0_1.length : Int) := of_decide_eq_true (by first | (with_reducible assumption) | assumption)
      obtain ⟨d_0, e920, m_e, m_n, m_p, m_k, m_d, m_h, m_l, m_i, m_g, m_o, m_j, m_m, m_f⟩ := Y1i HR0_1.out x12_1 p920 q920
      cases e920
      replace m_e := hbC HB m_e
      replace m_n := hbC HB m_n
      replace m_p := hbC HB m_p
      replace m_k := hbC HB m_k
      replace m_d := hbC HB m_d
      replace m_h := hbC HB m_h
      replace m_l := hbC HB m_l
      replace m_i := hbC HB m_i
      replace m_g := hbC HB m_g
      replace m_o := hbC HB m_o
      replace m_j := hbC HB m_j
      replace m_m := hbC HB m_m
      replace m_f := hbC HB m_f
      replace p920 := eq_true p920
      replace q920 := eq_true q920
      go_wp2_with (first | ((with_reducible refine Ye (N := 13) rfl ?_); (try (refine YC (by rfl) ?_; dsimp only)); refine Yh ?hg (N := 13) ?hd (cs := #[.int .i64 0, .int .i64 0, .int .i64 0, .int .i64 0, .int .i64 0, .bool false, .int .i64 0, .int .i64 0, .int .i64 0, .int .i64 0, .int .i64 0, .int .i64 0, .int .i64 0]) (t := 30) ?hr ?_; (case hd => rfl); (case hg => rfl); (case hr => first | (go_simp; done) | (go_simp; rfl)); intro g_1 hg w25 hbox hb; have n0_ := Y0.mk (Kd.R_below (Kd.rU HO_7.out) hb); have n1_ := Y0.mk (Kd.R_below (Kd.rU HO_8.out) hb); have n2_ := Y0.mk (Y1 (bU B_0.out) hb); have n3_ := Y0.mk (Y3 (hU HB.out) hb); have n4_ := Y0.mk (hbox); have n5_ := gE hg HB; have n6_ := gE hg HB; have n7_ := gL hg B_0; have n8_ := gG hg B_0; clear HO_7; clear HO_8; clear B_0; clear HB; have HO_7 := n0_; have HO_8 := n1_; have B_0 := n2_; have HB := n3_; have B_1 := n4_; have W_2 := n5_; have G_2 := n6_; have N_1 := n7_; have N_5 := n8_; clear n0_ n1_ n2_ n3_ n4_ n5_ n6_ n7_ n8_; clear hb hbox hg; have hnb26 := N_5.out; have hnc26 := N_1.out; have z_3 := Y2 B_1.out; have f_3 := Y7 B_1.out))
      repeat (go_quiet (first | ((with_reducible refine Ye (N := 13) rfl ?_); (try (refine YC (by rfl) ?_; dsimp only)); refine Yh ?hg (N := 13) ?hd (cs := #[.int .i64 0, .int .i64 0, .int .i64 0, .int .i64 0, .int .i64 0, .bool false, .int .i64 0, .int .i64 0, .int .i64 0, .int .i64 0, .int .i64 0, .int .i64 0, .int .i64 0]) (t := 30) ?hr ?_; (case hd => rfl); (case hg => rfl); (case hr => first | (go_simp; done) | (go_simp; rfl)); intro g_1 hg w25 hbox hb; have n0_ := Y0.mk (Kd.R_below (Kd.rU HO_7.out) hb); have n1_ := Y0.mk (Kd.R_below (Kd.rU HO_8.out) hb); have n2_ := Y0.mk (Y1 (bU B_0.out) hb); have n3_ := Y0.mk (Y3 (hU HB.out) hb); have n4_ := Y0.mk (hbox); have n5_ := gE hg HB; have n6_ := gE hg HB; have n7_ := gL hg B_0; have n8_ := gG hg B_0; clear HO_7; clear HO_8; clear B_0; clear HB; have HO_7 := n0_; have HO_8 := n1_; have B_0 := n2_; have HB := n3_; have B_1 := n4_; have W_2 := n5_; have G_2 := n6_; have N_1 := n7_; have N_5 := n8_; clear n0_ n1_ n2_ n3_ n4_ n5_ n6_ n7_ n8_; clear hb hbox hg; have hnb26 := N_5.out; have hnc26 := N_1.out; have z_3 := Y2 B_1.out; have f_3 := Y7 B_1.out)); try go_wp2_with (first | ((with_reducible refine Ye (N := 13) rfl ?_); (try (refine YC (by rfl) ?_; dsimp only)); refine Yh ?hg (N := 13) ?hd (cs := #[.int .i64 0, .int .i64 0, .int .i64 0, .int .i64 0, .int .i64 0, .bool false, .int .i64 0, .int .i64 0, .int .i64 0, .int .i64 0, .int .i64 0, .int .i64 0, .int .i64 0]) (t := 30) ?hr ?_; (case hd => rfl); (case hg => rfl); (case hr => first | (go_simp; done) | (go_simp; rfl)); intro g_1 hg w25 hbox hb; have n0_ := Y0.mk (Kd.R_below (Kd.rU HO_7.out) hb); have n1_ := Y0.mk (Kd.R_below (Kd.rU HO_8.out) hb); have n2_ := Y0.mk (Y1 (bU B_0.out) hb); have n3_ := Y0.mk (Y3 (hU HB.out) hb); have n4_ := Y0.mk (hbox); have n5_ := gE hg HB; have n6_ := gE hg HB; have n7_ := gL hg B_0; have n8_ := gG hg B_0; clear HO_7; clear HO_8; clear B_0; clear HB; have HO_7 := n0_; have HO_8 := n1_; have B_0 := n2_; have HB := n3_; have B_1 := n4_; have W_2 := n5_; have G_2 := n6_; have N_1 := n7_; have N_5 := n8_; clear n0_ n1_ n2_ n3_ n4_ n5_ n6_ n7_ n8_; clear hb hbox hg; have hnb26 := N_5.out; have hnc26 := N_1.out; have z_3 := Y2 B_1.out; have f_3 := Y7 B_1.out)))
      go_loopg [14, 15] k1 (fun kq v14 v15 w' => ∃ (x14_2 : Bool) (x15_2 : Int), v14 = .bool x14_2 ∧ v15 = .int .i64 x15_2 ∧ Y0 (Ya.l1 kq a1 t_0 t_6 x10_1 x11_1 x12_1 x14_2 x15_2 a0_0 l0_1 ((Y8 l0_1 x12_1).f0.f0) ((Y8 l0_1 x12_1).f0.f1) ((Y8 l0_1 x12_1).f1) ((Y8 l0_1 x12_1).f2.f0) ((Y8 l0_1 x12_1).f2.f1) ((Y8 l0_1 x12_1).f3) ((Y8 l0_1 x12_1).f4.f0) ((Y8 l0_1 x12_1).f4.f1) ((Y8 l0_1 x12_1).f4.f2) ((Y8 l0_1 x12_1).f4.f3) ((Y8 l0_1 x12_1).f4.f4) ((Y8 l0_1 x12_1).f4.f5) ((Y8 l0_1 x12_1).f4.f6) = some r) ∧ Y0 (kq ≤ k1) ∧ Y0 (Kd.R k28 28 w' w.heap.size (fun _ => True) (.slice Ao20 t_0.length co20) t_0) ∧ Y0 (Kd.R k26 26 w' w.heap.size (fun _ => True) v_0 t_6) ∧ Y0 (w'.heap[g_2]? = some (.cells #[.int .i64 a0_0, (.slice (some d_0) l0_1.length c0_1)] 24 (0, 0))) ∧ Y0 (w'.heap[g_1]? = some (.cells #[.int .i64 ((Y8 l0_1 x12_1).f0.f0), .int .i64 ((Y8 l0_1 x12_1).f0.f1), .int .i64 ((Y8 l0_1 x12_1).f1), .int .i64 ((Y8 l0_1 x12_1).f2.f0), .int .i64 ((Y8 l0_1 x12_1).f2.f1), .bool ((Y8 l0_1 x12_1).f3), .int .i64 ((Y8 l0_1 x12_1).f4.f0), .int .i64 ((Y8 l0_1 x12_1).f4.f1), .int .i64 ((Y8 l0_1 x12_1).f4.f2), .int .i64 ((Y8 l0_1 x12_1).f4.f3), .int .i64 ((Y8 l0_1 x12_1).f4.f4), .int .i64 ((Y8 l0_1 x12_1).f4.f5), .int .i64 ((Y8 l0_1 x12_1).f4.f6)] 30 (0, 0))) ∧ Y0 (Below w.heap.size w w'))
      case atStart => exact ⟨((((Y8 l0_1 x12_1).f1) == a1)), (0), reS, reS, H', ⟨Nat.le_refl _⟩, ⟨by (with_reducible repeat (first | apply Kd.R_alloc | apply Kd.R_drewN | apply Kd.R_drew)); exact Kd.R_mono (Kd.R_far (p := ⟨g_1, 12, none⟩) (Kd.R_far (p := ⟨g_1, 11, none⟩) (Kd.R_far (p := ⟨g_1, 10, none⟩) (Kd.R_far (p := ⟨g_1, 9, none⟩) (Kd.R_far (p := ⟨g_1, 8, none⟩) (Kd.R_far (p := ⟨g_1, 7, none⟩) (Kd.R_far (p := ⟨g_1, 6, none⟩) (Kd.R_far (p := ⟨g_1, 5, none⟩) (Kd.R_far (p := ⟨g_1, 4, none⟩) (Kd.R_far (p := ⟨g_1, 3, none⟩) (Kd.R_far (p := ⟨g_1, 2, none⟩) (Kd.R_far (p := ⟨g_1, 1, none⟩) (Kd.R_far (p := ⟨g_1, 0, none⟩) (Kd.R_types HO_7.out B_1.out (by decide)) (fun _ hk => hk.2) (.int .i64 ((Y8 l0_1 x12_1).f0.f0))) (fun _ hk => hk.2) (.int .i64 ((Y8 l0_1 x12_1).f0.f1))) (fun _ hk => hk.2) (.int .i64 ((Y8 l0_1 x12_1).f1))) (fun _ hk => hk.2) (.int .i64 ((Y8 l0_1 x12_1).f2.f0))) (fun _ hk => hk.2) (.int .i64 ((Y8 l0_1 x12_1).f2.f1))) (fun _ hk => hk.2) (.bool ((Y8 l0_1 x12_1).f3))) (fun _ hk => hk.2) (.int .i64 ((Y8 l0_1 x12_1).f4.f0))) (fun _ hk => hk.2) (.int .i64 ((Y8 l0_1 x12_1).f4.f1))) (fun _ hk => hk.2) (.int .i64 ((Y8 l0_1 x12_1).f4.f2))) (fun _ hk => hk.2) (.int .i64 ((Y8 l0_1 x12_1).f4.f3))) (fun _ hk => hk.2) (.int .i64 ((Y8 l0_1 x12_1).f4.f4))) (fun _ hk => hk.2) (.int .i64 ((Y8 l0_1 x12_1).f4.f5))) (fun _ hk => hk.2) (.int .i64 ((Y8 l0_1 x12_1).f4.f6))) (fun _ hk => trivial)⟩, ⟨by (with_reducible repeat (first | apply Kd.R_alloc | apply Kd.R_drewN | apply Kd.R_drew)); exact Kd.R_mono (Kd.R_far (p := ⟨g_1, 12, none⟩) (Kd.R_far (p := ⟨g_1, 11, none⟩) (Kd.R_far (p := ⟨g_1, 10, none⟩) (Kd.R_far (p := ⟨g_1, 9, none⟩) (Kd.R_far (p := ⟨g_1, 8, none⟩) (Kd.R_far (p := ⟨g_1, 7, none⟩) (Kd.R_far (p := ⟨g_1, 6, none⟩) (Kd.R_far (p := ⟨g_1, 5, none⟩) (Kd.R_far (p := ⟨g_1, 4, none⟩) (Kd.R_far (p := ⟨g_1, 3, none⟩) (Kd.R_far (p := ⟨g_1, 2, none⟩) (Kd.R_far (p := ⟨g_1, 1, none⟩) (Kd.R_far (p := ⟨g_1, 0, none⟩) (Kd.R_types HO_8.out B_1.out (by decide)) (fun _ hk => hk.2) (.int .i64 ((Y8 l0_1 x12_1).f0.f0))) (fun _ hk => hk.2) (.int .i64 ((Y8 l0_1 x12_1).f0.f1))) (fun _ hk => hk.2) (.int .i64 ((Y8 l0_1 x12_1).f1))) (fun _ hk => hk.2) (.int .i64 ((Y8 l0_1 x12_1).f2.f0))) (fun _ hk => hk.2) (.int .i64 ((Y8 l0_1 x12_1).f2.f1))) (fun _ hk => hk.2) (.bool ((Y8 l0_1 x12_1).f3))) (fun _ hk => hk.2) (.int .i64 ((Y8 l0_1 x12_1).f4.f0))) (fun _ hk => hk.2) (.int .i64 ((Y8 l0_1 x12_1).f4.f1))) (fun _ hk => hk.2) (.int .i64 ((Y8 l0_1 x12_1).f4.f2))) (fun _ hk => hk.2) (.int .i64 ((Y8 l0_1 x12_1).f4.f3))) (fun _ hk => hk.2) (.int .i64 ((Y8 l0_1 x12_1).f4.f4))) (fun _ hk => hk.2) (.int .i64 ((Y8 l0_1 x12_1).f4.f5))) (fun _ hk => hk.2) (.int .i64 ((Y8 l0_1 x12_1).f4.f6))) (fun _ hk => trivial)⟩, ⟨by (with_reducible repeat (first | refine Y5 ?_ _ | refine Y6 ?_ | refine Y4 ?_ _)); refine (Below.heap_setCell _ ⟨_, _, none⟩ _ _ N_1.out).trans ?_; (with_reducible repeat (first | refine Y5 ?_ _ | refine Y6 ?_ | refine Y4 ?_ _)); refine (Below.heap_setCell _ ⟨_, _, none⟩ _ _ N_1.out).trans ?_; (with_reducible repeat (first | refine Y5 ?_ _ | refine Y6 ?_ | refine Y4 ?_ _)); refine (Below.heap_setCell _ ⟨_, _, none⟩ _ _ N_1.out).trans ?_; (with_reducible repeat (first | refine Y5 ?_ _ | refine Y6 ?_ | refine Y4 ?_ _)); refine (Below.heap_setCell _ ⟨_, _, none⟩ _ _ N_1.out).trans ?_; (with_reducible repeat (first | refine Y5 ?_ _ | refine Y6 ?_ | refine Y4 ?_ _)); refine (Below.heap_setCell _ ⟨_, _, none⟩ _ _ N_1.out).trans ?_; (with_reducible repeat (first | refine Y5 ?_ _ | refine Y6 ?_ | refine Y4 ?_ _)); refine (Below.heap_setCell _ ⟨_, _, none⟩ _ _ N_1.out).trans ?_; (with_reducible repeat (first | refine Y5 ?_ _ | refine Y6 ?_ | refine Y4 ?_ _)); refine (Below.heap_setCell _ ⟨_, _, none⟩ _ _ N_1.out).trans ?_; (with_reducible repeat (first | refine Y5 ?_ _ | refine Y6 ?_ | refine Y4 ?_ _)); refine (Below.heap_setCell _ ⟨_, _, none⟩ _ _ N_1.out).trans ?_; (with_reducible repeat (first | refine Y5 ?_ _ | refine Y6 ?_ | refine Y4 ?_ _)); refine (Below.heap_setCell _ ⟨_, _, none⟩ _ _ N_1.out).trans ?_; (with_reducible repeat (first | refine Y5 ?_ _ | refine Y6 ?_ | refine Y4 ?_ _)); refine (Below.heap_setCell _ ⟨_, _, none⟩ _ _ N_1.out).trans ?_; (with_reducible repeat (first | refine Y5 ?_ _ | refine Y6 ?_ | refine Y4 ?_ _)); refine (Below.heap_setCell _ ⟨_, _, none⟩ _ _ N_1.out).trans ?_; (with_reducible repeat (first | refine Y5 ?_ _ | refine Y6 ?_ | refine Y4 ?_ _)); refine (Below.heap_setCell _ ⟨_, _, none⟩ _ _ N_1.out).trans ?_; (with_reducible repeat (first | refine Y5 ?_ _ | refine Y6 ?_ | refine Y4 ?_ _)); refine (Below.heap_setCell _ ⟨_, _, none⟩ _ _ N_1.out).trans ?_; (with_reducible repeat (first | refine Y5 ?_ _ | refine Y6 ?_ | refine Y4 ?_ _)); exact B_0.out⟩, ⟨by (with_reducible repeat (first | refine Y5 ?_ _ | refine Y6 ?_ | refine Y4 ?_ _)); refine Ym (cs := #[.int .i64 ((Y8 l0_1 x12_1).f0.f0), .int .i64 ((Y8 l0_1 x12_1).f0.f1), .int .i64 ((Y8 l0_1 x12_1).f1), .int .i64 ((Y8 l0_1 x12_1).f2.f0), .int .i64 ((Y8 l0_1 x12_1).f2.f1), .bool ((Y8 l0_1 x12_1).f3), .int .i64 ((Y8 l0_1 x12_1).f4.f0), .int .i64 ((Y8 l0_1 x12_1).f4.f1), .int .i64 ((Y8 l0_1 x12_1).f4.f2), .int .i64 ((Y8 l0_1 x12_1).f4.f3), .int .i64 ((Y8 l0_1 x12_1).f4.f4), .int .i64 ((Y8 l0_1 x12_1).f4.f5), .int .i64 0]) ?_ 12 _ rfl; (with_reducible repeat (first | refine Y5 ?_ _ | refine Y6 ?_ | refine Y4 ?_ _)); refine Ym (cs := #[.int .i64 ((Y8 l0_1 x12_1).f0.f0), .int .i64 ((Y8 l0_1 x12_1).f0.f1), .int .i64 ((Y8 l0_1 x12_1).f1), .int .i64 ((Y8 l0_1 x12_1).f2.f0), .int .i64 ((Y8 l0_1 x12_1).f2.f1), .bool ((Y8 l0_1 x12_1).f3), .int .i64 ((Y8 l0_1 x12_1).f4.f0), .int .i64 ((Y8 l0_1 x12_1).f4.f1), .int .i64 ((Y8 l0_1 x12_1).f4.f2), .int .i64 ((Y8 l0_1 x12_1).f4.f3), .int .i64 ((Y8 l0_1 x12_1).f4.f4), .int .i64 0, .int .i64 0]) ?_ 11 _ rfl; (with_reducible repeat (first | refine Y5 ?_ _ | refine Y6 ?_ | refine Y4 ?_ _)); refine Ym (cs := #[.int .i64 ((Y8 l0_1 x12_1).f0.f0), .int .i64 ((Y8 l0_1 x12_1).f0.f1), .int .i64 ((Y8 l0_1 x12_1).f1), .int .i64 ((Y8 l0_1 x12_1).f2.f0), .int .i64 ((Y8 l0_1 x12_1).f2.f1), .bool ((Y8 l0_1 x12_1).f3), .int .i64 ((Y8 l0_1 x12_1).f4.f0), .int .i64 ((Y8 l0_1 x12_1).f4.f1), .int .i64 ((Y8 l0_1 x12_1).f4.f2), .int .i64 ((Y8 l0_1 x12_1).f4.f3), .int .i64 0, .int .i64 0, .int .i64 0]) ?_ 10 _ rfl; (with_reducible repeat (first | refine Y5 ?_ _ | refine Y6 ?_ | refine Y4 ?_ _)); refine Ym (cs := #[.int .i64 ((Y8 l0_1 x12_1).f0.f0), .int .i64 ((Y8 l0_1 x12_1).f0.f1), .int .i64 ((Y8 l0_1 x12_1).f1), .int .i64 ((Y8 l0_1 x12_1).f2.f0), .int .i64 ((Y8 l0_1 x12_1).f2.f1), .bool ((Y8 l0_1 x12_1).f3), .int .i64 ((Y8 l0_1 x12_1).f4.f0), .int .i64 ((Y8 l0_1 x12_1).f4.f1), .int .i64 ((Y8 l0_1 x12_1).f4.f2), .int .i64 0, .int .i64 0, .int .i64 0, .int .i64 0]) ?_ 9 _ rfl; (with_reducible repeat (first | refine Y5 ?_ _ | refine Y6 ?_ | refine Y4 ?_ _)); refine Ym (cs := #[.int .i64 ((Y8 l0_1 x12_1).f0.f0), .int .i64 ((Y8 l0_1 x12_1).f0.f1), .int .i64 ((Y8 l0_1 x12_1).f1), .int .i64 ((Y8 l0_1 x12_1).f2.f0), .int .i64 ((Y8 l0_1 x12_1).f2.f1), .bool ((Y8 l0_1 x12_1).f3), .int .i64 ((Y8 l0_1 x12_1).f4.f0), .int .i64 ((Y8 l0_1 x12_1).f4.f1), .int .i64 0, .int .i64 0, .int .i64 0, .int .i64 0, .int .i64 0]) ?_ 8 _ rfl; (with_reducible repeat (first | refine Y5 ?_ _ | refine Y6 ?_ | refine Y4 ?_ _)); refine Ym (cs := #[.int .i64 ((Y8 l0_1 x12_1).f0.f0), .int .i64 ((Y8 l0_1 x12_1).f0.f1), .int .i64 ((Y8 l0_1 x12_1).f1), .int .i64 ((Y8 l0_1 x12_1).f2.f0), .int .i64 ((Y8 l0_1 x12_1).f2.f1), .bool ((Y8 l0_1 x12_1).f3), .int .i64 ((Y8 l0_1 x12_1).f4.f0), .int .i64 0, .int .i64 0, .int .i64 0, .int .i64 0, .int .i64 0, .int .i64 0]) ?_ 7 _ rfl; (with_reducible repeat (first | refine Y5 ?_ _ | refine Y6 ?_ | refine Y4 ?_ _)); refine Ym (cs := #[.int .i64 ((Y8 l0_1 x12_1).f0.f0), .int .i64 ((Y8 l0_1 x12_1).f0.f1), .int .i64 ((Y8 l0_1 x12_1).f1), .int .i64 ((Y8 l0_1 x12_1).f2.f0), .int .i64 ((Y8 l0_1 x12_1).f2.f1), .bool ((Y8 l0_1 x12_1).f3), .int .i64 0, .int .i64 0, .int .i64 0, .int .i64 0, .int .i64 0, .int .i64 0, .int .i64 0]) ?_ 6 _ rfl; (with_reducible repeat (first | refine Y5 ?_ _ | refine Y6 ?_ | refine Y4 ?_ _)); refine Ym (cs := #[.int .i64 ((Y8 l0_1 x12_1).f0.f0), .int .i64 ((Y8 l0_1 x12_1).f0.f1), .int .i64 ((Y8 l0_1 x12_1).f1), .int .i64 ((Y8 l0_1 x12_1).f2.f0), .int .i64 ((Y8 l0_1 x12_1).f2.f1), .bool false, .int .i64 0, .int .i64 0, .int .i64 0, .int .i64 0, .int .i64 0, .int .i64 0, .int .i64 0]) ?_ 5 _ rfl; (with_reducible repeat (first | refine Y5 ?_ _ | refine Y6 ?_ | refine Y4 ?_ _)); refine Ym (cs := #[.int .i64 ((Y8 l0_1 x12_1).f0.f0), .int .i64 ((Y8 l0_1 x12_1).f0.f1), .int .i64 ((Y8 l0_1 x12_1).f1), .int .i64 ((Y8 l0_1 x12_1).f2.f0), .int .i64 0, .bool false, .int .i64 0, .int .i64 0, .int .i64 0, .int .i64 0, .int .i64 0, .int .i64 0, .int .i64 0]) ?_ 4 _ rfl; (with_reducible repeat (first | refine Y5 ?_ _ | refine Y6 ?_ | refine Y4 ?_ _)); refine Ym (cs := #[.int .i64 ((Y8 l0_1 x12_1).f0.f0), .int .i64 ((Y8 l0_1 x12_1).f0.f1), .int .i64 ((Y8 l0_1 x12_1).f1), .int .i64 0, .int .i64 0, .bool false, .int .i64 0, .int .i64 0, .int .i64 0, .int .i64 0, .int .i64 0, .int .i64 0, .int .i64 0]) ?_ 3 _ rfl; (with_reducible repeat (first | refine Y5 ?_ _ | refine Y6 ?_ | refine Y4 ?_ _)); refine Ym (cs := #[.int .i64 ((Y8 l0_1 x12_1).f0.f0), .int .i64 ((Y8 l0_1 x12_1).f0.f1), .int .i64 0, .int .i64 0, .int .i64 0, .bool false, .int .i64 0, .int .i64 0, .int .i64 0, .int .i64 0, .int .i64 0, .int .i64 0, .int .i64 0]) ?_ 2 _ rfl; (with_reducible repeat (first | refine Y5 ?_ _ | refine Y6 ?_ | refine Y4 ?_ _)); refine Ym (cs := #[.int .i64 ((Y8 l0_1 x12_1).f0.f0), .int .i64 0, .int .i64 0, .int .i64 0, .int .i64 0, .bool false, .int .i64 0, .int .i64 0, .int .i64 0, .int .i64 0, .int .i64 0, .int .i64 0, .int .i64 0]) ?_ 1 _ rfl; (with_reducible repeat (first | refine Y5 ?_ _ | refine Y6 ?_ | refine Y4 ?_ _)); refine Ym (cs := #[.int .i64 0, .int .i64 0, .int .i64 0, .int .i64 0, .int .i64 0, .bool false, .int .i64 0, .int .i64 0, .int .i64 0, .int .i64 0, .int .i64 0, .int .i64 0, .int .i64 0]) ?_ 0 _ rfl; (with_reducible repeat (first | refine Y5 ?_ _ | refine Y6 ?_ | refine Y4 ?_ _)); exact B_1.out⟩, ⟨hU HB.out⟩⟩
      case round =>
       clear H'
       try clear c1
       try clear c2
       try clear p2
       try clear c5
       try clear c8
       try clear p9
       try clear q9
       try clear hx9
       try clear c12
       try clear c12b0
       try clear c12b1
       try clear c14
       try clear c14b0
       try clear c14b1
       try clear c22
       try clear c22b0
       try clear c23
       try clear c23b0
       try clear c26
       try clear z_2
       try clear z_6
       try clear z_1
       try clear z_8
       try clear z_5
       try clear z_k
       try clear z_3
       try clear z_n
       try clear z_9
       try clear z_l
       try clear z_o
       try clear z_s
       try clear z_m
       try clear z_r
       try clear z_j
       try clear z_d
       try clear z_f
       try clear z_c
       try clear z_i
       try clear z_0
       try clear z_7
       try clear f_1
       try clear f_5
       try clear f_2
       try clear f_6
       try clear f_7
       try clear f_q
       try clear f_3
       try clear f_s
       try clear f_t
       try clear f_m
       try clear f_a
       try clear f_p
       try clear f_c
       try clear f_j
       try clear f_b
       try clear f_9
       try clear f_n
       try clear f_r
       try clear f_g
       try clear f_0
       try clear f_8
       try clear m_e
       try clear m_n
       try clear m_j
       try clear m_m
       try clear m_f
       try clear m_p
       try clear m_k
       try clear m_d
       try clear m_h
       try clear m_l
       try clear m_i
       try clear m_g
       try clear m_o
       try clear p2
       try clear p920
       try clear q920
       obtain ⟨x14_2, x15_2, rfl, rfl, HA, HK2, HO_7, HO_8, B_0, B_1, HB⟩ := hrel
       cases gk with
       | zero => exact absurd HA.out (by simp [Ya.l1])
       | succ k2 =>
        have H := HA.out
        clear HA
        simp only [Ya.l1] at H
        by_cases c28 : x15_2 < x12_1
        ·rw [if_pos c28] at H
         have c28b0 := decide_eq_true c28
         clear c28
         by_cases c29 : x14_2 = true
         ·subst c29
          rw [if_pos rfl] at H
          obtain ⟨c30, H⟩ := iS H
          have c30b0 := decide_eq_true c30
          clear c30
          obtain ⟨c31, H⟩ := iS H
          have c31b0 := decide_eq_true c31
          clear c31
          by_cases c32 : ((Y8 l0_1 x15_2).f1) = a1
          ·rw [if_pos c32] at H
           have c32b0 := bqT c32
           have c32b1 := bnF c32
           clear c32
           have H' := Y0.mk H
           clear H
           have hnb33 := N_1.out
           have hnc33 := N_5.out
           have z_t := Y2 B_0.out
           have f_f := Y7 B_0.out
           have p922 : 0 ≤ (x15_2 : Int) := of_decide_eq_true (by first | (with_reducible assumption) | assumption)
           have q922 : x15_2 < (l0_1.length : Int) := of_decide_eq_true (by first | (with_reducible assumption) | assumption)
           obtain ⟨d_1, e922, m_7, m_8, m_3, m_9, m_5, m_6, m_b, m_c, m_0, m_1, m_a, m_4, m_2⟩ := Y1i HR0_1.out x15_2 p922 q922
           obtain rfl : d_0 = d_1 := (by injection e922)
           replace m_7 := hbC HB m_7
           replace m_8 := hbC HB m_8
           replace m_3 := hbC HB m_3
           replace m_9 := hbC HB m_9
           replace m_5 := hbC HB m_5
           replace m_6 := hbC HB m_6
           replace m_b := hbC HB m_b
           replace m_c := hbC HB m_c
           replace m_0 := hbC HB m_0
           replace m_1 := hbC HB m_1
           replace m_a := hbC HB m_a
           replace m_4 := hbC HB m_4
           replace m_2 := hbC HB m_2
           replace p922 := eq_true p922
           replace q922 := eq_true q922
           have p923 : 0 ≤ (x15_2 : Int) := of_decide_eq_true (by first | (with_reducible assumption) | assumption)
           have q923 : x15_2 < (l0_1.length : Int) := of_decide_eq_true (by first | (with_reducible assumption) | assumption)
           obtain ⟨d_2, e923, m_10, m_11, m_v, m_z, m_12, m_u, m_t, m_q, m_x, m_w, m_y, m_s, m_r⟩ := Y1i HR0_1.out x15_2 p923 q923
           obtain rfl : d_0 = d_2 := (by injection e923)
           replace m_10 := hbC HB m_10
           replace m_11 := hbC HB m_11
           replace m_v := hbC HB m_v
           replace m_z := hbC HB m_z
           replace m_12 := hbC HB m_12
           replace m_u := hbC HB m_u
           replace m_t := hbC HB m_t
           replace m_q := hbC HB m_q
           replace m_x := hbC HB m_x
           replace m_w := hbC HB m_w
           replace m_y := hbC HB m_y
           replace m_s := hbC HB m_s
           replace m_r := hbC HB m_r
           replace p923 := eq_true p923
           replace q923 := eq_true q923
           have z_h := Y2 B_1.out
           have f_o := Y7 B_1.out
           go_wp2
           repeat (go_quiet (fail); try go_wp2)
           go_roundg k2
           case measure => have := HK1.out; have := HK2.out; omega
           case rel => exact ⟨(!(((Y8 l0_1 x15_2).f2.f0) == ((Y8 l0_1 x12_1).f2.f0) && (((Y8 l0_1 x15_2).f2.f1) == ((Y8 l0_1 x12_1).f2.f1)))), (wrap64 (x15_2 + 1)), reS, reS, H', ⟨by have := HK1.out; have := HK2.out; omega⟩, ⟨by (with_reducible repeat (first | apply Kd.R_alloc | apply Kd.R_drewN | apply Kd.R_drew)); exact HO_7.out⟩, ⟨by (with_reducible repeat (first | apply Kd.R_alloc | apply Kd.R_drewN | apply Kd.R_drew)); exact HO_8.out⟩, ⟨kB B_0⟩, ⟨kB B_1⟩, ⟨hU HB.out⟩⟩
          ·rw [if_neg c32] at H
           have c32b0 := bqF c32
           have c32b1 := bnT c32
           have H' := Y0.mk H
           clear H
           have hnb36 := N_1.out
           have hnc36 := N_5.out
           have z_p := Y2 B_0.out
           have f_k := Y7 B_0.out
           have p922 : 0 ≤ (x15_2 : Int) := of_decide_eq_true (by first | (with_reducible assumption) | assumption)
           have q922 : x15_2 < (l0_1.length : Int) := of_decide_eq_true (by first | (with_reducible assumption) | assumption)
           obtain ⟨d_1, e922, m_7, m_8, m_3, m_9, m_5, m_6, m_b, m_c, m_0, m_1, m_a, m_4, m_2⟩ := Y1i HR0_1.out x15_2 p922 q922
           obtain rfl : d_0 = d_1 := (by injection e922)
           replace m_7 := hbC HB m_7
           replace m_8 := hbC HB m_8
           replace m_3 := hbC HB m_3
           replace m_9 := hbC HB m_9
           replace m_5 := hbC HB m_5
           replace m_6 := hbC HB m_6
           replace m_b := hbC HB m_b
           replace m_c := hbC HB m_c
           replace m_0 := hbC HB m_0
           replace m_1 := hbC HB m_1
           replace m_a := hbC HB m_a
           replace m_4 := hbC HB m_4
           replace m_2 := hbC HB m_2
           replace p922 := eq_true p922
           replace q922 := eq_true q922
           go_wp2
           repeat (go_quiet (fail); try go_wp2)
           go_roundg k2
           case measure => have := HK1.out; have := HK2.out; omega
           case rel => exact ⟨(!false), (wrap64 (x15_2 + 1)), reS, reS, H', ⟨by have := HK1.out; have := HK2.out; omega⟩, ⟨by (with_reducible repeat (first | apply Kd.R_alloc | apply Kd.R_drewN | apply Kd.R_drew)); exact HO_7.out⟩, ⟨by (with_reducible repeat (first | apply Kd.R_alloc | apply Kd.R_drewN | apply Kd.R_drew)); exact HO_8.out⟩, ⟨kB B_0⟩, ⟨kB B_1⟩, ⟨hU HB.out⟩⟩
         ·replace c29 := Bool.eq_false_iff.mpr c29
          subst c29
          rw [if_neg (show ¬ (false = true) by decide)] at H
          have H' := Y0.mk H
          clear H
          go_wp2
          repeat (go_quiet (fail); try go_wp2)
          go_roundg k2
          case measure => have := HK1.out; have := HK2.out; omega
          case rel => exact ⟨(false), (wrap64 (x15_2 + 1)), reS, reS, H', ⟨by have := HK1.out; have := HK2.out; omega⟩, ⟨by (with_reducible repeat (first | apply Kd.R_alloc | apply Kd.R_drewN | apply Kd.R_drew)); exact HO_7.out⟩, ⟨by (with_reducible repeat (first | apply Kd.R_alloc | apply Kd.R_drewN | apply Kd.R_drew)); exact HO_8.out⟩, ⟨kB B_0⟩, ⟨kB B_1⟩, ⟨hU HB.out⟩⟩
        ·rw [if_neg c28] at H
         have c28b0 := decide_eq_false c28
         clear c28
         by_cases c38 : x14_2 = true
         ·subst c38
          rw [if_pos rfl] at H
          obtain ⟨⟨t_1, t_2, t_3, t_4, t_5, t_7, t_8, t_g, t_d⟩, A390, H⟩ := bS H
          try dsimp only at H
          have A39 := Y0.mk A390
          clear A390
          obtain ⟨c40, H⟩ := iS H
          have c40b0 := bqT c40
          have c40b1 := bnF c40
          clear c40
          by_cases c41 : t_g = true
          ·subst c41
           rw [if_pos rfl] at H
           have H' := Y0.mk H
           clear H
           have hnb42 := N_1.out
           have hnc42 := N_5.out
           have z_e := Y2 B_0.out
           have f_d := Y7 B_0.out
           have z_a := Y2 B_1.out
           have f_e := Y7 B_1.out
           go_wp2_with (first | (go_at_call 27; (with_reducible refine (YD.calls a0_0 _ _ l0_1 a1 ((Y8 l0_1 x12_1).f2.f0) ((Y8 l0_1 x12_1).f2.f1) t_1 t_2 t_3 t_4 t_5 t_7 t_8 true t_d _ ?side1 ?side2 A39.out).mono ?_); (case side1 => repeat (first | exact (Kd.C_below HR0_1.out HB.out) | (with_reducible refine Kd.C_alloc ?_ _) | (with_reducible refine Kd.C_drewN ?_ _) | (with_reducible refine Kd.C_drew ?_))); (case side2 => exact HC0_1.out); rintro e w45 ⟨rfl, hb⟩; replace HO_7 := Y0.mk (Kd.R_below (Kd.rU HO_7.out) hb); replace HO_8 := Y0.mk (Kd.R_below (Kd.rU HO_8.out) hb); replace B_0 := Y0.mk (Y1 (bU B_0.out) hb); replace B_1 := Y0.mk (Y1 (bU B_1.out) hb); replace HB := Y0.mk (Y3 (hU HB.out) hb); (try clear hb); (try clear hb2); (try clear hk); (try clear hi)) | ((with_reducible refine Ye (N := 16) rfl ?_); (try (refine YC (by rfl) ?_; dsimp only)); refine Yh ?hg (N := 16) ?hd (cs := #[.int .i64 0, .int .i64 0, .int .i64 0, .int .i64 0, .int .i64 0, .int .i64 0, .int .i64 0]) (t := 28) ?hr ?_; (case hd => rfl); (case hg => rfl); (case hr => first | (go_simp; done) | (go_simp; rfl)); intro g_0 hg w46 hbox hb; have n0_ := Y0.mk (Kd.R_below (Kd.R_elderB (Kd.rU HO_7.out) g_0 (Nat.le_of_eq hg.symm)) hb); have n1_ := Y0.mk (Kd.R_below (Kd.rU HO_8.out) hb); have n2_ := Y0.mk (Y1 (bU B_0.out) hb); have n3_ := Y0.mk (Y1 (bU B_1.out) hb); have n4_ := Y0.mk (Y3 (hU HB.out) hb); have n5_ := Y0.mk (hbox); have n6_ := gE hg HB; have n7_ := gE hg HB; have n8_ := gL hg B_0; have n9_ := gG hg B_0; have n10_ := gL hg B_1; have n11_ := gG hg B_1; clear HO_7; clear HO_8; clear B_0; clear B_1; clear HB; have HO_7 := n0_; have HO_8 := n1_; have B_0 := n2_; have B_1 := n3_; have HB := n4_; have B_2 := n5_; have W_1 := n6_; have G_1 := n7_; have N_0 := n8_; have N_4 := n9_; have N_2 := n10_; have N_3 := n11_; clear n0_ n1_ n2_ n3_ n4_ n5_ n6_ n7_ n8_ n9_ n10_ n11_; clear hb hbox hg; have hnb47 := N_4.out; have hnc47 := N_0.out; have hnb48 := N_3.out; have hnc48 := N_2.out; have z_4 := Y2 B_2.out; have f_4 := Y7 B_2.out))
           repeat (go_quiet (first | (go_at_call 27; (with_reducible refine (YD.calls a0_0 _ _ l0_1 a1 ((Y8 l0_1 x12_1).f2.f0) ((Y8 l0_1 x12_1).f2.f1) t_1 t_2 t_3 t_4 t_5 t_7 t_8 true t_d _ ?side1 ?side2 A39.out).mono ?_); (case side1 => repeat (first | exact (Kd.C_below HR0_1.out HB.out) | (with_reducible refine Kd.C_alloc ?_ _) | (with_reducible refine Kd.C_drewN ?_ _) | (with_reducible refine Kd.C_drew ?_))); (case side2 => exact HC0_1.out); rintro e w45 ⟨rfl, hb⟩; replace HO_7 := Y0.mk (Kd.R_below (Kd.rU HO_7.out) hb); replace HO_8 := Y0.mk (Kd.R_below (Kd.rU HO_8.out) hb); replace B_0 := Y0.mk (Y1 (bU B_0.out) hb); replace B_1 := Y0.mk (Y1 (bU B_1.out) hb); replace HB := Y0.mk (Y3 (hU HB.out) hb); (try clear hb); (try clear hb2); (try clear hk); (try clear hi)) | ((with_reducible refine Ye (N := 16) rfl ?_); (try (refine YC (by rfl) ?_; dsimp only)); refine Yh ?hg (N := 16) ?hd (cs := #[.int .i64 0, .int .i64 0, .int .i64 0, .int .i64 0, .int .i64 0, .int .i64 0, .int .i64 0]) (t := 28) ?hr ?_; (case hd => rfl); (case hg => rfl); (case hr => first | (go_simp; done) | (go_simp; rfl)); intro g_0 hg w46 hbox hb; have n0_ := Y0.mk (Kd.R_below (Kd.R_elderB (Kd.rU HO_7.out) g_0 (Nat.le_of_eq hg.symm)) hb); have n1_ := Y0.mk (Kd.R_below (Kd.rU HO_8.out) hb); have n2_ := Y0.mk (Y1 (bU B_0.out) hb); have n3_ := Y0.mk (Y1 (bU B_1.out) hb); have n4_ := Y0.mk (Y3 (hU HB.out) hb); have n5_ := Y0.mk (hbox); have n6_ := gE hg HB; have n7_ := gE hg HB; have n8_ := gL hg B_0; have n9_ := gG hg B_0; have n10_ := gL hg B_1; have n11_ := gG hg B_1; clear HO_7; clear HO_8; clear B_0; clear B_1; clear HB; have HO_7 := n0_; have HO_8 := n1_; have B_0 := n2_; have B_1 := n3_; have HB := n4_; have B_2 := n5_; have W_1 := n6_; have G_1 := n7_; have N_0 := n8_; have N_4 := n9_; have N_2 := n10_; have N_3 := n11_; clear n0_ n1_ n2_ n3_ n4_ n5_ n6_ n7_ n8_ n9_ n10_ n11_; clear hb hbox hg; have hnb47 := N_4.out; have hnc47 := N_0.out; have hnb48 := N_3.out; have hnc48 := N_2.out; have z_4 := Y2 B_2.out; have f_4 := Y7 B_2.out)); try go_wp2_with (first | (go_at_call 27; (with_reducible refine (YD.calls a0_0 _ _ l0_1 a1 ((Y8 l0_1 x12_1).f2.f0) ((Y8 l0_1 x12_1).f2.f1) t_1 t_2 t_3 t_4 t_5 t_7 t_8 true t_d _ ?side1 ?side2 A39.out).mono ?_); (case side1 => repeat (first | exact (Kd.C_below HR0_1.out HB.out) | (with_reducible refine Kd.C_alloc ?_ _) | (with_reducible refine Kd.C_drewN ?_ _) | (with_reducible refine Kd.C_drew ?_))); (case side2 => exact HC0_1.out); rintro e w45 ⟨rfl, hb⟩; replace HO_7 := Y0.mk (Kd.R_below (Kd.rU HO_7.out) hb); replace HO_8 := Y0.mk (Kd.R_below (Kd.rU HO_8.out) hb); replace B_0 := Y0.mk (Y1 (bU B_0.out) hb); replace B_1 := Y0.mk (Y1 (bU B_1.out) hb); replace HB := Y0.mk (Y3 (hU HB.out) hb); (try clear hb); (try clear hb2); (try clear hk); (try clear hi)) | ((with_reducible refine Ye (N := 16) rfl ?_); (try (refine YC (by rfl) ?_; dsimp only)); refine Yh ?hg (N := 16) ?hd (cs := #[.int .i64 0, .int .i64 0, .int .i64 0, .int .i64 0, .int .i64 0, .int .i64 0, .int .i64 0]) (t := 28) ?hr ?_; (case hd => rfl); (case hg => rfl); (case hr => first | (go_simp; done) | (go_simp; rfl)); intro g_0 hg w46 hbox hb; have n0_ := Y0.mk (Kd.R_below (Kd.R_elderB (Kd.rU HO_7.out) g_0 (Nat.le_of_eq hg.symm)) hb); have n1_ := Y0.mk (Kd.R_below (Kd.rU HO_8.out) hb); have n2_ := Y0.mk (Y1 (bU B_0.out) hb); have n3_ := Y0.mk (Y1 (bU B_1.out) hb); have n4_ := Y0.mk (Y3 (hU HB.out) hb); have n5_ := Y0.mk (hbox); have n6_ := gE hg HB; have n7_ := gE hg HB; have n8_ := gL hg B_0; have n9_ := gG hg B_0; have n10_ := gL hg B_1; have n11_ := gG hg B_1; clear HO_7; clear HO_8; clear B_0; clear B_1; clear HB; have HO_7 := n0_; have HO_8 := n1_; have B_0 := n2_; have B_1 := n3_; have HB := n4_; have B_2 := n5_; have W_1 := n6_; have G_1 := n7_; have N_0 := n8_; have N_4 := n9_; have N_2 := n10_; have N_3 := n11_; clear n0_ n1_ n2_ n3_ n4_ n5_ n6_ n7_ n8_ n9_ n10_ n11_; clear hb hbox hg; have hnb47 := N_4.out; have hnc47 := N_0.out; have hnb48 := N_3.out; have hnc48 := N_2.out; have z_4 := Y2 B_2.out; have f_4 := Y7 B_2.out)))
           go_loopg [19, 20] k2 (fun kq v19 v20 w' => ∃ (x19_3 : Bool) (x20_3 : Int), v19 = .bool x19_3 ∧ v20 = .int .i64 x20_3 ∧ Y0 (Ya.l2 kq a1 t_0 t_6 (wrap64 (x10_1 + 1)) x11_1 x12_1 x19_3 x20_3 a0_0 l0_1 ((Y8 l0_1 x12_1).f0.f0) ((Y8 l0_1 x12_1).f0.f1) ((Y8 l0_1 x12_1).f1) ((Y8 l0_1 x12_1).f2.f0) ((Y8 l0_1 x12_1).f2.f1) ((Y8 l0_1 x12_1).f3) ((Y8 l0_1 x12_1).f4.f0) ((Y8 l0_1 x12_1).f4.f1) ((Y8 l0_1 x12_1).f4.f2) ((Y8 l0_1 x12_1).f4.f3) ((Y8 l0_1 x12_1).f4.f4) ((Y8 l0_1 x12_1).f4.f5) ((Y8 l0_1 x12_1).f4.f6) t_1 t_2 t_3 t_4 t_5 t_7 t_8 = some r) ∧ Y0 (kq ≤ k2) ∧ Y0 (Kd.R k28 28 w' w.heap.size (fun k_ => k_ ≠ g_0) (.slice Ao20 t_0.length co20) t_0) ∧ Y0 (Kd.R k26 26 w' w.heap.size (fun _ => True) v_0 t_6) ∧ Y0 (w'.heap[g_2]? = some (.cells #[.int .i64 a0_0, (.slice (some d_0) l0_1.length c0_1)] 24 (0, 0))) ∧ Y0 (w'.heap[g_1]? = some (.cells #[.int .i64 ((Y8 l0_1 x12_1).f0.f0), .int .i64 ((Y8 l0_1 x12_1).f0.f1), .int .i64 ((Y8 l0_1 x12_1).f1), .int .i64 ((Y8 l0_1 x12_1).f2.f0), .int .i64 ((Y8 l0_1 x12_1).f2.f1), .bool ((Y8 l0_1 x12_1).f3), .int .i64 ((Y8 l0_1 x12_1).f4.f0), .int .i64 ((Y8 l0_1 x12_1).f4.f1), .int .i64 ((Y8 l0_1 x12_1).f4.f2), .int .i64 ((Y8 l0_1 x12_1).f4.f3), .int .i64 ((Y8 l0_1 x12_1).f4.f4), .int .i64 ((Y8 l0_1 x12_1).f4.f5), .int .i64 ((Y8 l0_1 x12_1).f4.f6)] 30 (0, 0))) ∧ Y0 (w'.heap[g_0]? = some (.cells #[.int .i64 t_1, .int .i64 t_2, .int .i64 t_3, .int .i64 t_4, .int .i64 t_5, .int .i64 t_7, .int .i64 t_8] 28 (0, 0))) ∧ Y0 (Below w.heap.size w w'))
           case atStart => exact ⟨(false), (0), reS, reS, H', ⟨Nat.le_refl _⟩, ⟨by (with_reducible repeat (first | apply Kd.R_alloc | apply Kd.R_drewN | apply Kd.R_drew)); exact Kd.R_mono (Kd.R_far (p := ⟨g_0, 6, none⟩) (Kd.R_far (p := ⟨g_0, 5, none⟩) (Kd.R_far (p := ⟨g_0, 4, none⟩) (Kd.R_far (p := ⟨g_0, 3, none⟩) (Kd.R_far (p := ⟨g_0, 2, none⟩) (Kd.R_far (p := ⟨g_0, 1, none⟩) (Kd.R_far (p := ⟨g_0, 0, none⟩) (Kd.R_mono HO_7.out (fun k_ hk => (⟨hk, hk.2⟩ : _ ∧ k_ ≠ g_0))) (fun _ hk => hk.2) (.int .i64 t_1)) (fun _ hk => hk.2) (.int .i64 t_2)) (fun _ hk => hk.2) (.int .i64 t_3)) (fun _ hk => hk.2) (.int .i64 t_4)) (fun _ hk => hk.2) (.int .i64 t_5)) (fun _ hk => hk.2) (.int .i64 t_7)) (fun _ hk => hk.2) (.int .i64 t_8)) (fun _ hk => hk.1.2)⟩, ⟨by (with_reducible repeat (first | apply Kd.R_alloc | apply Kd.R_drewN | apply Kd.R_drew)); exact Kd.R_mono (Kd.R_far (p := ⟨g_0, 6, none⟩) (Kd.R_far (p := ⟨g_0, 5, none⟩) (Kd.R_far (p := ⟨g_0, 4, none⟩) (Kd.R_far (p := ⟨g_0, 3, none⟩) (Kd.R_far (p := ⟨g_0, 2, none⟩) (Kd.R_far (p := ⟨g_0, 1, none⟩) (Kd.R_far (p := ⟨g_0, 0, none⟩) (Kd.R_types HO_8.out B_2.out (by decide)) (fun _ hk => hk.2) (.int .i64 t_1)) (fun _ hk => hk.2) (.int .i64 t_2)) (fun _ hk => hk.2) (.int .i64 t_3)) (fun _ hk => hk.2) (.int .i64 t_4)) (fun _ hk => hk.2) (.int .i64 t_5)) (fun _ hk => hk.2) (.int .i64 t_7)) (fun _ hk => hk.2) (.int .i64 t_8)) (fun _ hk => trivial)⟩, ⟨by (with_reducible repeat (first | refine Y5 ?_ _ | refine Y6 ?_ | refine Y4 ?_ _)); refine (Below.heap_setCell _ ⟨_, _, none⟩ _ _ N_0.out).trans ?_; (with_reducible repeat (first | refine Y5 ?_ _ | refine Y6 ?_ | refine Y4 ?_ _)); refine (Below.heap_setCell _ ⟨_, _, none⟩ _ _ N_0.out).trans ?_; (with_reducible repeat (first | refine Y5 ?_ _ | refine Y6 ?_ | refine Y4 ?_ _)); refine (Below.heap_setCell _ ⟨_, _, none⟩ _ _ N_0.out).trans ?_; (with_reducible repeat (first | refine Y5 ?_ _ | refine Y6 ?_ | refine Y4 ?_ _)); refine (Below.heap_setCell _ ⟨_, _, none⟩ _ _ N_0.out).trans ?_; (with_reducible repeat (first | refine Y5 ?_ _ | refine Y6 ?_ | refine Y4 ?_ _)); refine (Below.heap_setCell _ ⟨_, _, none⟩ _ _ N_0.out).trans ?_; (with_reducible repeat (first | refine Y5 ?_ _ | refine Y6 ?_ | refine Y4 ?_ _)); refine (Below.heap_setCell _ ⟨_, _, none⟩ _ _ N_0.out).trans ?_; (with_reducible repeat (first | refine Y5 ?_ _ | refine Y6 ?_ | refine Y4 ?_ _)); refine (Below.heap_setCell _ ⟨_, _, none⟩ _ _ N_0.out).trans ?_; (with_reducible repeat (first | refine Y5 ?_ _ | refine Y6 ?_ | refine Y4 ?_ _)); exact B_0.out⟩, ⟨by (with_reducible repeat (first | refine Y5 ?_ _ | refine Y6 ?_ | refine Y4 ?_ _)); refine (Below.heap_setCell _ ⟨_, _, none⟩ _ _ N_2.out).trans ?_; (with_reducible repeat (first | refine Y5 ?_ _ | refine Y6 ?_ | refine Y4 ?_ _)); refine (Below.heap_setCell _ ⟨_, _, none⟩ _ _ N_2.out).trans ?_; (with_reducible repeat (first | refine Y5 ?_ _ | refine Y6 ?_ | refine Y4 ?_ _)); refine (Below.heap_setCell _ ⟨_, _, none⟩ _ _ N_2.out).trans ?_; (with_reducible repeat (first | refine Y5 ?_ _ | refine Y6 ?_ | refine Y4 ?_ _)); refine (Below.heap_setCell _ ⟨_, _, none⟩ _ _ N_2.out).trans ?_; (with_reducible repeat (first | refine Y5 ?_ _ | refine Y6 ?_ | refine Y4 ?_ _)); refine (Below.heap_setCell _ ⟨_, _, none⟩ _ _ N_2.out).trans ?_; (with_reducible repeat (first | refine Y5 ?_ _ | refine Y6 ?_ | refine Y4 ?_ _)); refine (Below.heap_setCell _ ⟨_, _, none⟩ _ _ N_2.out).trans ?_; (with_reducible repeat (first | refine Y5 ?_ _ | refine Y6 ?_ | refine Y4 ?_ _)); refine (Below.heap_setCell _ ⟨_, _, none⟩ _ _ N_2.out).trans ?_; (with_reducible repeat (first | refine Y5 ?_ _ | refine Y6 ?_ | refine Y4 ?_ _)); exact B_1.out⟩, ⟨by (with_reducible repeat (first | refine Y5 ?_ _ | refine Y6 ?_ | refine Y4 ?_ _)); refine Ym (cs := #[.int .i64 t_1, .int .i64 t_2, .int .i64 t_3, .int .i64 t_4, .int .i64 t_5, .int .i64 t_7, .int .i64 0]) ?_ 6 _ rfl; (with_reducible repeat (first | refine Y5 ?_ _ | refine Y6 ?_ | refine Y4 ?_ _)); refine Ym (cs := #[.int .i64 t_1, .int .i64 t_2, .int .i64 t_3, .int .i64 t_4, .int .i64 t_5, .int .i64 0, .int .i64 0]) ?_ 5 _ rfl; (with_reducible repeat (first | refine Y5 ?_ _ | refine Y6 ?_ | refine Y4 ?_ _)); refine Ym (cs := #[.int .i64 t_1, .int .i64 t_2, .int .i64 t_3, .int .i64 t_4, .int .i64 0, .int .i64 0, .int .i64 0]) ?_ 4 _ rfl; (with_reducible repeat (first | refine Y5 ?_ _ | refine Y6 ?_ | refine Y4 ?_ _)); refine Ym (cs := #[.int .i64 t_1, .int .i64 t_2, .int .i64 t_3, .int .i64 0, .int .i64 0, .int .i64 0, .int .i64 0]) ?_ 3 _ rfl; (with_reducible repeat (first | refine Y5 ?_ _ | refine Y6 ?_ | refine Y4 ?_ _)); refine Ym (cs := #[.int .i64 t_1, .int .i64 t_2, .int .i64 0, .int .i64 0, .int .i64 0, .int .i64 0, .int .i64 0]) ?_ 2 _ rfl; (with_reducible repeat (first | refine Y5 ?_ _ | refine Y6 ?_ | refine Y4 ?_ _)); refine Ym (cs := #[.int .i64 t_1, .int .i64 0, .int .i64 0, .int .i64 0, .int .i64 0, .int .i64 0, .int .i64 0]) ?_ 1 _ rfl; (with_reducible repeat (first | refine Y5 ?_ _ | refine Y6 ?_ | refine Y4 ?_ _)); refine Ym (cs := #[.int .i64 0, .int .i64 0, .int .i64 0, .int .i64 0, .int .i64 0, .int .i64 0, .int .i64 0]) ?_ 0 _ rfl; (with_reducible repeat (first | refine Y5 ?_ _ | refine Y6 ?_ | refine Y4 ?_ _)); exact B_2.out⟩, ⟨hU HB.out⟩⟩
           case round =>
            clear H'
            try clear c1
            try clear c2
            try clear p2
            try clear c3
            try clear c4
            try clear c5
            try clear p6
            try clear c8
            try clear p9
            try clear q9
            try clear hx9
            try clear c12
            try clear c12b0
            try clear c12b1
            try clear c14
            try clear c14b0
            try clear c14b1
            try clear c22
            try clear c22b0
            try clear c23
            try clear c23b0
            try clear c26
            try clear c28
            try clear c28b0
            try clear c29
            try clear c30
            try clear c30b0
            try clear c31
            try clear c31b0
            try clear c32
            try clear c32b0
            try clear c32b1
            try clear c33
            try clear c36
            try clear c38
            try clear c40
            try clear c40b0
            try clear c40b1
            try clear c41
            try clear c42
            try clear c47
            try clear c48
            try clear z_2
            try clear z_6
            try clear z_1
            try clear z_8
            try clear z_5
            try clear z_k
            try clear z_3
            try clear z_n
            try clear z_9
            try clear z_l
            try clear z_o
            try clear z_s
            try clear z_m
            try clear z_r
            try clear z_j
            try clear z_d
            try clear z_f
            try clear z_c
            try clear z_i
            try clear z_t
            try clear z_16
            try clear z_h
            try clear z_1g
            try clear z_y
            try clear z_18
            try clear z_15
            try clear z_17
            try clear z_1r
            try clear z_1f
            try clear z_u
            try clear z_x
            try clear z_1n
            try clear z_1k
            try clear z_13
            try clear z_p
            try clear z_1q
            try clear z_e
            try clear z_z
            try clear z_a
            try clear z_1a
            try clear z_10
            try clear z_1c
            try clear z_1h
            try clear z_1p
            try clear z_1o
            try clear z_1m
            try clear z_1e
            try clear z_1j
            try clear z_w
            try clear z_v
            try clear z_11
            try clear z_4
            try clear z_14
            try clear z_1l
            try clear z_1d
            try clear z_12
            try clear z_1b
            try clear z_1i
            try clear z_0
            try clear z_7
            try clear f_1
            try clear f_5
            try clear f_2
            try clear f_6
            try clear f_7
            try clear f_q
            try clear f_3
            try clear f_s
            try clear f_t
            try clear f_m
            try clear f_a
            try clear f_p
            try clear f_c
            try clear f_j
            try clear f_b
            try clear f_9
            try clear f_n
            try clear f_r
            try clear f_g
            try clear f_f
            try clear f_v
            try clear f_o
            try clear f_z
            try clear f_1b
            try clear f_x
            try clear f_13
            try clear f_10
            try clear f_1l
            try clear f_1e
            try clear f_18
            try clear f_1h
            try clear f_12
            try clear f_u
            try clear f_y
            try clear f_k
            try clear f_1c
            try clear f_d
            try clear f_1a
            try clear f_e
            try clear f_1k
            try clear f_w
            try clear f_16
            try clear f_1j
            try clear f_11
            try clear f_1q
            try clear f_1f
            try clear f_1g
            try clear f_1i
            try clear f_1n
            try clear f_1m
            try clear f_1p
            try clear f_4
            try clear f_1r
            try clear f_1d
            try clear f_15
            try clear f_14
            try clear f_1o
            try clear f_17
            try clear f_0
            try clear f_8
            try clear m_e
            try clear m_n
            try clear m_j
            try clear m_m
            try clear m_f
            try clear m_p
            try clear m_k
            try clear m_d
            try clear m_h
            try clear m_l
            try clear m_i
            try clear m_g
            try clear m_o
            try clear m_7
            try clear m_8
            try clear m_a
            try clear m_4
            try clear m_2
            try clear m_3
            try clear m_9
            try clear m_5
            try clear m_6
            try clear m_b
            try clear m_c
            try clear m_0
            try clear m_1
            try clear m_10
            try clear m_11
            try clear m_y
            try clear m_s
            try clear m_r
            try clear m_v
            try clear m_z
            try clear m_12
            try clear m_u
            try clear m_t
            try clear m_q
            try clear m_x
            try clear m_w
            try clear p2
            try clear p9
            try clear p920
            try clear p922
            try clear p923
            try clear q9
            try clear q920
            try clear q922
            try clear q923
            obtain ⟨x19_3, x20_3, rfl, rfl, HA, HK3, HO_7, HO_8, B_0, B_1, B_2, HB⟩ := hrel
            cases gk with
            | zero => exact absurd HA.out (by simp [Ya.l2])
            | succ k3 =>
             have H := HA.out
             clear HA
             simp only [Ya.l2] at H
             by_cases c50 : x20_3 < (t_6.length : Int)
             ·rw [if_pos c50] at H
              have c50b0 := decide_eq_true c50
              clear c50
              by_cases c51 : x19_3 = true
              ·subst c51
               rw [if_pos rfl] at H
               have H' := Y0.mk H
               clear H
               obtain ⟨Ao52, co52, eo52⟩ := Kd.R_slice HO_8.out
               subst eo52
               go_wp2
               repeat (go_quiet (fail); try go_wp2)
               go_roundg k3
               case measure => have := HK1.out; have := HK2.out; have := HK3.out; omega
               case rel => exact ⟨(true), (wrap64 (x20_3 + 1)), reS, reS, H', ⟨by have := HK1.out; have := HK2.out; have := HK3.out; omega⟩, ⟨by (with_reducible repeat (first | apply Kd.R_alloc | apply Kd.R_drewN | apply Kd.R_drew)); exact HO_7.out⟩, ⟨by (with_reducible repeat (first | apply Kd.R_alloc | apply Kd.R_drewN | apply Kd.R_drew)); exact HO_8.out⟩, ⟨kB B_0⟩, ⟨kB B_1⟩, ⟨kB B_2⟩, ⟨hU HB.out⟩⟩
              ·replace c51 := Bool.eq_false_iff.mpr c51
               subst c51
               rw [if_neg (show ¬ (false = true) by decide)] at H
               obtain ⟨c53, H⟩ := iS H
               have c53b0 := decide_eq_true c53
               clear c53
               have H' := Y0.mk H
               clear H
               obtain ⟨Ao54, co54, eo54⟩ := Kd.R_slice HO_8.out
               subst eo54
               have p934 : 0 ≤ (x20_3 : Int) := of_decide_eq_true (by first | (with_reducible assumption) | assumption)
               have q934 : x20_3 < (t_6.length : Int) := of_decide_eq_true (by first | (with_reducible assumption) | assumption)
               obtain ⟨d_4, e934, m_19, m_13⟩ := Y3L (Kd.R_reads' HO_8.out).2.2 x20_3 p934 q934
               cases e934
               replace p934 := eq_true p934
               replace q934 := eq_true q934
               have hnb55 := N_5.out
               have hnc55 := N_1.out
               have hnb56 := N_2.out
               have hnc56 := N_3.out
               have z_19 := Y2 B_1.out
               have f_19 := Y7 B_1.out
               go_wp2
               repeat (go_quiet (fail); try go_wp2)
               go_roundg k3
               case measure => have := HK1.out; have := HK2.out; have := HK3.out; omega
               case rel => exact ⟨((((Y1s t_6 x20_3).f0) == ((Y8 l0_1 x12_1).f2.f0) && (((Y1s t_6 x20_3).f1) == ((Y8 l0_1 x12_1).f2.f1)))), (wrap64 (x20_3 + 1)), reS, reS, H', ⟨by have := HK1.out; have := HK2.out; have := HK3.out; omega⟩, ⟨by (with_reducible repeat (first | apply Kd.R_alloc | apply Kd.R_drewN | apply Kd.R_drew)); exact HO_7.out⟩, ⟨by (with_reducible repeat (first | apply Kd.R_alloc | apply Kd.R_drewN | apply Kd.R_drew)); exact HO_8.out⟩, ⟨kB B_0⟩, ⟨kB B_1⟩, ⟨kB B_2⟩, ⟨hU HB.out⟩⟩
             ·rw [if_neg c50] at H
              have c50b0 := decide_eq_false c50
              clear c50
              have H' := Y0.mk H
              clear H
              obtain ⟨Ao58, co58, eo58⟩ := Kd.R_slice HO_8.out
              subst eo58
              go_wp2
              repeat (go_quiet (fail); try go_wp2)
              go_loopg [11, 21] k3 (fun kq v11 v21 w' => ∃ (x11_4 : Int) (x21_4 : Int), v11 = .int .i64 x11_4 ∧ v21 = .int .i64 x21_4 ∧ Y0 (Ya.l3 kq a1 t_0 t_6 (wrap64 (x10_1 + 1)) x11_4 x12_1 x19_3 x21_4 a0_0 l0_1 t_1 t_2 t_3 t_4 t_5 t_7 t_8 = some r) ∧ Y0 (kq ≤ k3) ∧ Y0 (Kd.R k28 28 w' w.heap.size (fun k_ => k_ ≠ g_0) (.slice Ao20 t_0.length co20) t_0) ∧ Y0 (Kd.R k26 26 w' w.heap.size (fun _ => True) (.slice Ao58 t_6.length co58) t_6) ∧ Y0 (w'.heap[g_2]? = some (.cells #[.int .i64 a0_0, (.slice (some d_0) l0_1.length c0_1)] 24 (0, 0))) ∧ Y0 (w'.heap[g_1]? = some (.cells #[.int .i64 ((Y8 l0_1 x12_1).f0.f0), .int .i64 ((Y8 l0_1 x12_1).f0.f1), .int .i64 ((Y8 l0_1 x12_1).f1), .int .i64 ((Y8 l0_1 x12_1).f2.f0), .int .i64 ((Y8 l0_1 x12_1).f2.f1), .bool ((Y8 l0_1 x12_1).f3), .int .i64 ((Y8 l0_1 x12_1).f4.f0), .int .i64 ((Y8 l0_1 x12_1).f4.f1), .int .i64 ((Y8 l0_1 x12_1).f4.f2), .int .i64 ((Y8 l0_1 x12_1).f4.f3), .int .i64 ((Y8 l0_1 x12_1).f4.f4), .int .i64 ((Y8 l0_1 x12_1).f4.f5), .int .i64 ((Y8 l0_1 x12_1).f4.f6)] 30 (0, 0))) ∧ Y0 (w'.heap[g_0]? = some (.cells #[.int .i64 t_1, .int .i64 t_2, .int .i64 t_3, .int .i64 t_4, .int .i64 t_5, .int .i64 t_7, .int .i64 t_8] 28 (0, 0))) ∧ Y0 (Below w.heap.size w w'))
              case atStart => exact ⟨(x11_1), (0), reS, reS, H', ⟨Nat.le_refl _⟩, ⟨by (with_reducible repeat (first | apply Kd.R_alloc | apply Kd.R_drewN | apply Kd.R_drew)); exact HO_7.out⟩, ⟨by (with_reducible repeat (first | apply Kd.R_alloc | apply Kd.R_drewN | apply Kd.R_drew)); exact HO_8.out⟩, ⟨kB B_0⟩, ⟨kB B_1⟩, ⟨kB B_2⟩, ⟨hU HB.out⟩⟩
              case round =>
               clear H'
               try clear c1
               try clear c2
               try clear p2
               try clear c3
               try clear c4
               try clear c5
               try clear p6
               try clear c8
               try clear p9
               try clear q9
               try clear hx9
               try clear c12
               try clear c12b0
               try clear c12b1
               try clear c14
               try clear c14b0
               try clear c14b1
               try clear c22
               try clear c22b0
               try clear c23
               try clear c23b0
               try clear c26
               try clear c28
               try clear c28b0
               try clear c29
               try clear c30
               try clear c30b0
               try clear c31
               try clear c31b0
               try clear c32
               try clear c32b0
               try clear c32b1
               try clear c33
               try clear c36
               try clear c38
               try clear c40
               try clear c40b0
               try clear c40b1
               try clear c41
               try clear c42
               try clear c47
               try clear c48
               try clear c50
               try clear c50b0
               try clear c51
               try clear c53
               try clear c53b0
               try clear c55
               try clear c56
               try clear z_2
               try clear z_6
               try clear z_1
               try clear z_8
               try clear z_5
               try clear z_k
               try clear z_3
               try clear z_n
               try clear z_9
               try clear z_l
               try clear z_o
               try clear z_s
               try clear z_m
               try clear z_r
               try clear z_j
               try clear z_d
               try clear z_f
               try clear z_c
               try clear z_i
               try clear z_t
               try clear z_16
               try clear z_h
               try clear z_1g
               try clear z_y
               try clear z_18
               try clear z_15
               try clear z_17
               try clear z_1r
               try clear z_1f
               try clear z_u
               try clear z_x
               try clear z_1n
               try clear z_1k
               try clear z_13
               try clear z_p
               try clear z_1q
               try clear z_e
               try clear z_z
               try clear z_a
               try clear z_1a
               try clear z_10
               try clear z_1c
               try clear z_1h
               try clear z_1p
               try clear z_1o
               try clear z_1m
               try clear z_1e
               try clear z_1j
               try clear z_w
               try clear z_v
               try clear z_11
               try clear z_4
               try clear z_14
               try clear z_1l
               try clear z_1d
               try clear z_12
               try clear z_1b
               try clear z_1i
               try clear z_19
               try clear z_23
               try clear z_1t
               try clear z_25
               try clear z_22
               try clear z_1w
               try clear z_1s
               try clear z_1x
               try clear z_28
               try clear z_26
               try clear z_1u
               try clear z_24
               try clear z_1z
               try clear z_0
               try clear z_7
               try clear f_1
               try clear f_5
               try clear f_2
               try clear f_6
               try clear f_7
               try clear f_q
               try clear f_3
               try clear f_s
               try clear f_t
               try clear f_m
               try clear f_a
               try clear f_p
               try clear f_c
               try clear f_j
               try clear f_b
               try clear f_9
               try clear f_n
               try clear f_r
               try clear f_g
               try clear f_f
               try clear f_v
               try clear f_o
               try clear f_z
               try clear f_1b
               try clear f_x
               try clear f_13
               try clear f_10
               try clear f_1l
               try clear f_1e
               try clear f_18
               try clear f_1h
               try clear f_12
               try clear f_u
               try clear f_y
               try clear f_k
               try clear f_1c
               try clear f_d
               try clear f_1a
               try clear f_e
               try clear f_1k
               try clear f_w
               try clear f_16
               try clear f_1j
               try clear f_11
               try clear f_1q
               try clear f_1f
               try clear f_1g
               try clear f_1i
               try clear f_1n
               try clear f_1m
               try clear f_1p
               try clear f_4
               try clear f_1r
               try clear f_1d
               try clear f_15
               try clear f_14
               try clear f_1o
               try clear f_17
               try clear f_19
               try clear f_1v
               try clear f_20
               try clear f_1y
               try clear f_25
               try clear f_1x
               try clear f_22
               try clear f_23
               try clear f_28
               try clear f_1u
               try clear f_1s
               try clear f_1z
               try clear f_24
               try clear f_0
               try clear f_8
               try clear m_e
               try clear m_n
               try clear m_j
               try clear m_m
               try clear m_f
               try clear m_p
               try clear m_k
               try clear m_d
               try clear m_h
               try clear m_l
               try clear m_i
               try clear m_g
               try clear m_o
               try clear m_7
               try clear m_8
               try clear m_a
               try clear m_4
               try clear m_2
               try clear m_3
               try clear m_9
               try clear m_5
               try clear m_6
               try clear m_b
               try clear m_c
               try clear m_0
               try clear m_1
               try clear m_10
               try clear m_11
               try clear m_y
               try clear m_s
               try clear m_r
               try clear m_v
               try clear m_z
               try clear m_12
               try clear m_u
               try clear m_t
               try clear m_q
               try clear m_x
               try clear m_w
               try clear m_19
               try clear m_13
               try clear p2
               try clear p6
               try clear p9
               try clear p920
               try clear p922
               try clear p923
               try clear p934
               try clear q9
               try clear q920
               try clear q922
               try clear q923
               try clear q934
               obtain ⟨x11_4, x21_4, rfl, rfl, HA, HK4, HO_7, HO_8, B_0, B_1, B_2, HB⟩ := hrel
               cases gk with
               | zero => exact absurd HA.out (by simp [Ya.l3])
               | succ k4 =>
                have H := HA.out
                clear HA
                simp only [Ya.l3] at H
                by_cases c59 : x21_4 < (t_0.length : Int)
                ·rw [if_pos c59] at H
                 have c59b0 := decide_eq_true c59
                 clear c59
                 by_cases c60 : x19_3 = true
                 ·subst c60
                  have H1 : (Ya.l0 k4 a1 t_0 t_6 (wrap64 (x10_1 + 1)) x11_4 (wrap64 (x12_1 + 1)) a0_0 l0_1) = some r := by rw [if_pos rfl] at H; exact H
                  clear H
                  have H := H1
                  clear H1
                  have H' := Y0.mk H
                  clear H
                  go_wp2
                  repeat (go_quiet (fail); try go_wp2)
                  go_roundg k4
                  case measure => have := HK1.out; have := HK2.out; have := HK3.out; have := HK4.out; omega
                  case rel => exact ⟨((wrap64 (x10_1 + 1))), (x11_4), (wrap64 (x12_1 + 1)), reS, reS, reS, H', ⟨by have := HK1.out; have := HK2.out; have := HK3.out; have := HK4.out; omega⟩, ⟨by (with_reducible repeat (first | apply Kd.R_alloc | apply Kd.R_drewN | apply Kd.R_drew)); exact Kd.R_mono HO_7.out (fun _ hk => trivial)⟩, ⟨by (with_reducible repeat (first | apply Kd.R_alloc | apply Kd.R_drewN | apply Kd.R_drew)); exact HO_8.out⟩, ⟨kB B_0⟩, ⟨hU HB.out⟩⟩
                 ·replace c60 := Bool.eq_false_iff.mpr c60
                  subst c60
                  rw [if_neg (show ¬ (false = true) by decide)] at H
                  obtain ⟨c61, H⟩ := iS H
                  have c61b0 := decide_eq_true c61
                  clear c61
                  by_cases c62 : (((Yo t_0 x21_4).f0) == t_1 && (((Yo t_0 x21_4).f1) == t_2 && (((Yo t_0 x21_4).f2) == t_3 && (((Yo t_0 x21_4).f3) == t_4 && (((Yo t_0 x21_4).f4) == t_5 && (((Yo t_0 x21_4).f5) == t_7 && (((Yo t_0 x21_4).f6) == t_8))))))) = true
                  ·rw [if_pos c62] at H
                   have c62b0 : (((Yo t_0 x21_4).f0) == t_1 && (((Yo t_0 x21_4).f1) == t_2 && (((Yo t_0 x21_4).f2) == t_3 && (((Yo t_0 x21_4).f3) == t_4 && (((Yo t_0 x21_4).f4) == t_5 && (((Yo t_0 x21_4).f5) == t_7 && (((Yo t_0 x21_4).f6) == t_8))))))) = true := c62
                   (try (have c62b1 : decide (((Yo t_0 x21_4).f0) = t_1 && (((Yo t_0 x21_4).f1) == t_2 && (((Yo t_0 x21_4).f2) == t_3 && (((Yo t_0 x21_4).f3) == t_4 && (((Yo t_0 x21_4).f4) == t_5 && (((Yo t_0 x21_4).f5) == t_7 && (((Yo t_0 x21_4).f6) == t_8))))))) = true := by simpa using c62))
                   (try (have c62b2 : (((Yo t_0 x21_4).f0) == t_1 && (((Yo t_0 x21_4).f1) == t_2 && (((Yo t_0 x21_4).f2) == t_3 && (((Yo t_0 x21_4).f3) == t_4 && (((Yo t_0 x21_4).f4) == t_5 && (((Yo t_0 x21_4).f5) == t_7 && (((Yo t_0 x21_4).f6) == t_8))))))) = true := by simpa using c62))
                   clear c62
                   have H' := Y0.mk H
                   clear H
                   have p935 : 0 ≤ (x21_4 : Int) := of_decide_eq_true (by first | (with_reducible assumption) | assumption)
                   have q935 : x21_4 < (t_0.length : Int) := of_decide_eq_true (by first | (with_reducible assumption) | assumption)
                   obtain ⟨d_3, e935, m_16, m_1b, m_18, m_15, m_1a, m_14, m_17⟩ := Y2d (Kd.R_reads' HO_7.out).2.2 x21_4 p935 q935
                   cases e935
                   replace p935 := eq_true p935
                   replace q935 := eq_true q935
                   have hnb63 := N_4.out
                   have hnc63 := N_0.out
                   have hnb64 := N_3.out
                   have hnc64 := N_2.out
                   have z_20 := Y2 B_2.out
                   have f_27 := Y7 B_2.out
                   go_wp2
                   repeat (go_quiet (fail); try go_wp2)
                   go_roundg k4
                   case measure => have := HK1.out; have := HK2.out; have := HK3.out; have := HK4.out; omega
                   case rel => exact ⟨(wrap64 (x11_4 + 1)), (wrap64 (x21_4 + 1)), reS, reS, H', ⟨by have := HK1.out; have := HK2.out; have := HK3.out; have := HK4.out; omega⟩, ⟨by (with_reducible repeat (first | apply Kd.R_alloc | apply Kd.R_drewN | apply Kd.R_drew)); exact HO_7.out⟩, ⟨by (with_reducible repeat (first | apply Kd.R_alloc | apply Kd.R_drewN | apply Kd.R_drew)); exact HO_8.out⟩, ⟨kB B_0⟩, ⟨kB B_1⟩, ⟨kB B_2⟩, ⟨hU HB.out⟩⟩
                  ·rw [if_neg c62] at H
                   have c62b0 : (((Yo t_0 x21_4).f0) == t_1 && (((Yo t_0 x21_4).f1) == t_2 && (((Yo t_0 x21_4).f2) == t_3 && (((Yo t_0 x21_4).f3) == t_4 && (((Yo t_0 x21_4).f4) == t_5 && (((Yo t_0 x21_4).f5) == t_7 && (((Yo t_0 x21_4).f6) == t_8))))))) = false := by simpa using c62
                   (try (have c62b1 : decide (((Yo t_0 x21_4).f0) = t_1 && (((Yo t_0 x21_4).f1) == t_2 && (((Yo t_0 x21_4).f2) == t_3 && (((Yo t_0 x21_4).f3) == t_4 && (((Yo t_0 x21_4).f4) == t_5 && (((Yo t_0 x21_4).f5) == t_7 && (((Yo t_0 x21_4).f6) == t_8))))))) = false := by simpa using c62))
                   (try (have c62b2 : (((Yo t_0 x21_4).f0) == t_1 && (((Yo t_0 x21_4).f1) == t_2 && (((Yo t_0 x21_4).f2) == t_3 && (((Yo t_0 x21_4).f3) == t_4 && (((Yo t_0 x21_4).f4) == t_5 && (((Yo t_0 x21_4).f5) == t_7 && (((Yo t_0 x21_4).f6) == t_8))))))) = false := by simpa using c62))
                   (try (have c62b3 : ¬ (((Yo t_0 x21_4).f0) = t_1 && (((Yo t_0 x21_4).f1) == t_2 && (((Yo t_0 x21_4).f2) == t_3 && (((Yo t_0 x21_4).f3) == t_4 && (((Yo t_0 x21_4).f4) == t_5 && (((Yo t_0 x21_4).f5) == t_7 && (((Yo t_0 x21_4).f6) == t_8))))))) := by simpa using c62))
                   clear c62
                   have H' := Y0.mk H
                   clear H
                   have p935 : 0 ≤ (x21_4 : Int) := of_decide_eq_true (by first | (with_reducible assumption) | assumption)
                   have q935 : x21_4 < (t_0.length : Int) := of_decide_eq_true (by first | (with_reducible assumption) | assumption)
                   obtain ⟨d_3, e935, m_16, m_1b, m_18, m_15, m_1a, m_14, m_17⟩ := Y2d (Kd.R_reads' HO_7.out).2.2 x21_4 p935 q935
                   cases e935
                   replace p935 := eq_true p935
                   replace q935 := eq_true q935
                   have hnb66 := N_4.out
                   have hnc66 := N_0.out
                   have hnb67 := N_3.out
                   have hnc67 := N_2.out
                   have z_27 := Y2 B_2.out
                   have f_1t := Y7 B_2.out
                   go_wp2
                   repeat (go_quiet (fail); try go_wp2)
                   go_roundg k4
                   case measure => have := HK1.out; have := HK2.out; have := HK3.out; have := HK4.out; omega
                   case rel => exact ⟨(x11_4), (wrap64 (x21_4 + 1)), reS, reS, H', ⟨by have := HK1.out; have := HK2.out; have := HK3.out; have := HK4.out; omega⟩, ⟨by (with_reducible repeat (first | apply Kd.R_alloc | apply Kd.R_drewN | apply Kd.R_drew)); exact HO_7.out⟩, ⟨by (with_reducible repeat (first | apply Kd.R_alloc | apply Kd.R_drewN | apply Kd.R_drew)); exact HO_8.out⟩, ⟨kB B_0⟩, ⟨kB B_1⟩, ⟨kB B_2⟩, ⟨hU HB.out⟩⟩
                ·rw [if_neg c59] at H
                 have c59b0 := decide_eq_false c59
                 clear c59
                 have H' := Y0.mk H
                 clear H
                 go_wp2
                 repeat (go_quiet (fail); try go_wp2)
                 go_roundg k4
                 case measure => have := HK1.out; have := HK2.out; have := HK3.out; have := HK4.out; omega
                 case rel => exact ⟨((wrap64 (x10_1 + 1))), (x11_4), (wrap64 (x12_1 + 1)), reS, reS, reS, H', ⟨by have := HK1.out; have := HK2.out; have := HK3.out; have := HK4.out; omega⟩, ⟨by (with_reducible repeat (first | apply Kd.R_alloc | apply Kd.R_drewN | apply Kd.R_drew)); exact Kd.R_mono HO_7.out (fun _ hk => trivial)⟩, ⟨by (with_reducible repeat (first | apply Kd.R_alloc | apply Kd.R_drewN | apply Kd.R_drew)); exact HO_8.out⟩, ⟨kB B_0⟩, ⟨hU HB.out⟩⟩
          ·replace c41 := Bool.eq_false_iff.mpr c41
           subst c41
           have H1 : (Ya.l0 k2 a1 t_0 t_6 x10_1 x11_1 (wrap64 (x12_1 + 1)) a0_0 l0_1) = some r := by rw [if_neg (show ¬ (false = true) by decide)] at H; exact H
           clear H
           have H := H1
           clear H1
           have H' := Y0.mk H
           clear H
           have hnb69 := N_1.out
           have hnc69 := N_5.out
           have z_1v := Y2 B_0.out
           have f_26 := Y7 B_0.out
           have z_1y := Y2 B_1.out
           have f_1w := Y7 B_1.out
           go_wp2_with (first | (go_at_call 27; (with_reducible refine (YD.calls a0_0 _ _ l0_1 a1 ((Y8 l0_1 x12_1).f2.f0) ((Y8 l0_1 x12_1).f2.f1) t_1 t_2 t_3 t_4 t_5 t_7 t_8 false t_d _ ?side1 ?side2 A39.out).mono ?_); (case side1 => repeat (first | exact (Kd.C_below HR0_1.out HB.out) | (with_reducible refine Kd.C_alloc ?_ _) | (with_reducible refine Kd.C_drewN ?_ _) | (with_reducible refine Kd.C_drew ?_))); (case side2 => exact HC0_1.out); rintro e w72 ⟨rfl, hb⟩; replace HO_7 := Y0.mk (Kd.R_below (Kd.rU HO_7.out) hb); replace HO_8 := Y0.mk (Kd.R_below (Kd.rU HO_8.out) hb); replace B_0 := Y0.mk (Y1 (bU B_0.out) hb); replace B_1 := Y0.mk (Y1 (bU B_1.out) hb); replace HB := Y0.mk (Y3 (hU HB.out) hb); (try clear hb); (try clear hb2); (try clear hk); (try clear hi)) | ((with_reducible refine Ye (N := 16) rfl ?_); (try (refine YC (by rfl) ?_; dsimp only)); refine Yh ?hg (N := 16) ?hd (cs := #[.int .i64 0, .int .i64 0, .int .i64 0, .int .i64 0, .int .i64 0, .int .i64 0, .int .i64 0]) (t := 28) ?hr ?_; (case hd => rfl); (case hg => rfl); (case hr => first | (go_simp; done) | (go_simp; rfl)); intro g_0 hg w73 hbox hb; have n0_ := Y0.mk (Kd.R_below (Kd.R_elderB (Kd.rU HO_7.out) g_0 (Nat.le_of_eq hg.symm)) hb); have n1_ := Y0.mk (Kd.R_below (Kd.rU HO_8.out) hb); have n2_ := Y0.mk (Y1 (bU B_0.out) hb); have n3_ := Y0.mk (Y1 (bU B_1.out) hb); have n4_ := Y0.mk (Y3 (hU HB.out) hb); have n5_ := Y0.mk (hbox); have n6_ := gE hg HB; have n7_ := gE hg HB; have n8_ := gL hg B_0; have n9_ := gG hg B_0; have n10_ := gL hg B_1; have n11_ := gG hg B_1; clear HO_7; clear HO_8; clear B_0; clear B_1; clear HB; have HO_7 := n0_; have HO_8 := n1_; have B_0 := n2_; have B_1 := n3_; have HB := n4_; have B_2 := n5_; have W_1 := n6_; have G_1 := n7_; have N_0 := n8_; have N_4 := n9_; have N_2 := n10_; have N_3 := n11_; clear n0_ n1_ n2_ n3_ n4_ n5_ n6_ n7_ n8_ n9_ n10_ n11_; clear hb hbox hg; have hnb74 := N_4.out; have hnc74 := N_0.out; have hnb75 := N_3.out; have hnc75 := N_2.out; have z_g := Y2 B_2.out; have f_l := Y7 B_2.out))
           repeat (go_quiet (first | (go_at_call 27; (with_reducible refine (YD.calls a0_0 _ _ l0_1 a1 ((Y8 l0_1 x12_1).f2.f0) ((Y8 l0_1 x12_1).f2.f1) t_1 t_2 t_3 t_4 t_5 t_7 t_8 false t_d _ ?side1 ?side2 A39.out).mono ?_); (case side1 => repeat (first | exact (Kd.C_below HR0_1.out HB.out) | (with_reducible refine Kd.C_alloc ?_ _) | (with_reducible refine Kd.C_drewN ?_ _) | (with_reducible refine Kd.C_drew ?_))); (case side2 => exact HC0_1.out); rintro e w72 ⟨rfl, hb⟩; replace HO_7 := Y0.mk (Kd.R_below (Kd.rU HO_7.out) hb); replace HO_8 := Y0.mk (Kd.R_below (Kd.rU HO_8.out) hb); replace B_0 := Y0.mk (Y1 (bU B_0.out) hb); replace B_1 := Y0.mk (Y1 (bU B_1.out) hb); replace HB := Y0.mk (Y3 (hU HB.out) hb); (try clear hb); (try clear hb2); (try clear hk); (try clear hi)) | ((with_reducible refine Ye (N := 16) rfl ?_); (try (refine YC (by rfl) ?_; dsimp only)); refine Yh ?hg (N := 16) ?hd (cs := #[.int .i64 0, .int .i64 0, .int .i64 0, .int .i64 0, .int .i64 0, .int .i64 0, .int .i64 0]) (t := 28) ?hr ?_; (case hd => rfl); (case hg => rfl); (case hr => first | (go_simp; done) | (go_simp; rfl)); intro g_0 hg w73 hbox hb; have n0_ := Y0.mk (Kd.R_below (Kd.R_elderB (Kd.rU HO_7.out) g_0 (Nat.le_of_eq hg.symm)) hb); have n1_ := Y0.mk (Kd.R_below (Kd.rU HO_8.out) hb); have n2_ := Y0.mk (Y1 (bU B_0.out) hb); have n3_ := Y0.mk (Y1 (bU B_1.out) hb); have n4_ := Y0.mk (Y3 (hU HB.out) hb); have n5_ := Y0.mk (hbox); have n6_ := gE hg HB; have n7_ := gE hg HB; have n8_ := gL hg B_0; have n9_ := gG hg B_0; have n10_ := gL hg B_1; have n11_ := gG hg B_1; clear HO_7; clear HO_8; clear B_0; clear B_1; clear HB; have HO_7 := n0_; have HO_8 := n1_; have B_0 := n2_; have B_1 := n3_; have HB := n4_; have B_2 := n5_; have W_1 := n6_; have G_1 := n7_; have N_0 := n8_; have N_4 := n9_; have N_2 := n10_; have N_3 := n11_; clear n0_ n1_ n2_ n3_ n4_ n5_ n6_ n7_ n8_ n9_ n10_ n11_; clear hb hbox hg; have hnb74 := N_4.out; have hnc74 := N_0.out; have hnb75 := N_3.out; have hnc75 := N_2.out; have z_g := Y2 B_2.out; have f_l := Y7 B_2.out)); try go_wp2_with (first | (go_at_call 27; (with_reducible refine (YD.calls a0_0 _ _ l0_1 a1 ((Y8 l0_1 x12_1).f2.f0) ((Y8 l0_1 x12_1).f2.f1) t_1 t_2 t_3 t_4 t_5 t_7 t_8 false t_d _ ?side1 ?side2 A39.out).mono ?_); (case side1 => repeat (first | exact (Kd.C_below HR0_1.out HB.out) | (with_reducible refine Kd.C_alloc ?_ _) | (with_reducible refine Kd.C_drewN ?_ _) | (with_reducible refine Kd.C_drew ?_))); (case side2 => exact HC0_1.out); rintro e w72 ⟨rfl, hb⟩; replace HO_7 := Y0.mk (Kd.R_below (Kd.rU HO_7.out) hb); replace HO_8 := Y0.mk (Kd.R_below (Kd.rU HO_8.out) hb); replace B_0 := Y0.mk (Y1 (bU B_0.out) hb); replace B_1 := Y0.mk (Y1 (bU B_1.out) hb); replace HB := Y0.mk (Y3 (hU HB.out) hb); (try clear hb); (try clear hb2); (try clear hk); (try clear hi)) | ((with_reducible refine Ye (N := 16) rfl ?_); (try (refine YC (by rfl) ?_; dsimp only)); refine Yh ?hg (N := 16) ?hd (cs := #[.int .i64 0, .int .i64 0, .int .i64 0, .int .i64 0, .int .i64 0, .int .i64 0, .int .i64 0]) (t := 28) ?hr ?_; (case hd => rfl); (case hg => rfl); (case hr => first | (go_simp; done) | (go_simp; rfl)); intro g_0 hg w73 hbox hb; have n0_ := Y0.mk (Kd.R_below (Kd.R_elderB (Kd.rU HO_7.out) g_0 (Nat.le_of_eq hg.symm)) hb); have n1_ := Y0.mk (Kd.R_below (Kd.rU HO_8.out) hb); have n2_ := Y0.mk (Y1 (bU B_0.out) hb); have n3_ := Y0.mk (Y1 (bU B_1.out) hb); have n4_ := Y0.mk (Y3 (hU HB.out) hb); have n5_ := Y0.mk (hbox); have n6_ := gE hg HB; have n7_ := gE hg HB; have n8_ := gL hg B_0; have n9_ := gG hg B_0; have n10_ := gL hg B_1; have n11_ := gG hg B_1; clear HO_7; clear HO_8; clear B_0; clear B_1; clear HB; have HO_7 := n0_; have HO_8 := n1_; have B_0 := n2_; have B_1 := n3_; have HB := n4_; have B_2 := n5_; have W_1 := n6_; have G_1 := n7_; have N_0 := n8_; have N_4 := n9_; have N_2 := n10_; have N_3 := n11_; clear n0_ n1_ n2_ n3_ n4_ n5_ n6_ n7_ n8_ n9_ n10_ n11_; clear hb hbox hg; have hnb74 := N_4.out; have hnc74 := N_0.out; have hnb75 := N_3.out; have hnc75 := N_2.out; have z_g := Y2 B_2.out; have f_l := Y7 B_2.out)))
           go_roundg k2
           case measure => have := HK1.out; have := HK2.out; omega
           case rel => exact ⟨(x10_1), (x11_1), (wrap64 (x12_1 + 1)), reS, reS, reS, H', ⟨by have := HK1.out; have := HK2.out; omega⟩, ⟨by (with_reducible repeat (first | apply Kd.R_alloc | apply Kd.R_drewN | apply Kd.R_drew)); exact Kd.R_mono (Kd.R_far (p := ⟨g_0, 6, none⟩) (Kd.R_far (p := ⟨g_0, 5, none⟩) (Kd.R_far (p := ⟨g_0, 4, none⟩) (Kd.R_far (p := ⟨g_0, 3, none⟩) (Kd.R_far (p := ⟨g_0, 2, none⟩) (Kd.R_far (p := ⟨g_0, 1, none⟩) (Kd.R_far (p := ⟨g_0, 0, none⟩) (Kd.R_mono HO_7.out (fun k_ hk => (⟨hk, hk.2⟩ : _ ∧ k_ ≠ g_0))) (fun _ hk => hk.2) (.int .i64 t_1)) (fun _ hk => hk.2) (.int .i64 t_2)) (fun _ hk => hk.2) (.int .i64 t_3)) (fun _ hk => hk.2) (.int .i64 t_4)) (fun _ hk => hk.2) (.int .i64 t_5)) (fun _ hk => hk.2) (.int .i64 t_7)) (fun _ hk => hk.2) (.int .i64 t_8)) (fun _ hk => trivial)⟩, ⟨by (with_reducible repeat (first | apply Kd.R_alloc | apply Kd.R_drewN | apply Kd.R_drew)); exact Kd.R_mono (Kd.R_far (p := ⟨g_0, 6, none⟩) (Kd.R_far (p := ⟨g_0, 5, none⟩) (Kd.R_far (p := ⟨g_0, 4, none⟩) (Kd.R_far (p := ⟨g_0, 3, none⟩) (Kd.R_far (p := ⟨g_0, 2, none⟩) (Kd.R_far (p := ⟨g_0, 1, none⟩) (Kd.R_far (p := ⟨g_0, 0, none⟩) (Kd.R_types HO_8.out B_2.out (by decide)) (fun _ hk => hk.2) (.int .i64 t_1)) (fun _ hk => hk.2) (.int .i64 t_2)) (fun _ hk => hk.2) (.int .i64 t_3)) (fun _ hk => hk.2) (.int .i64 t_4)) (fun _ hk => hk.2) (.int .i64 t_5)) (fun _ hk => hk.2) (.int .i64 t_7)) (fun _ hk => hk.2) (.int .i64 t_8)) (fun _ hk => trivial)⟩, ⟨by (with_reducible repeat (first | refine Y5 ?_ _ | refine Y6 ?_ | refine Y4 ?_ _)); refine (Below.heap_setCell _ ⟨_, _, none⟩ _ _ N_0.out).trans ?_; (with_reducible repeat (first | refine Y5 ?_ _ | refine Y6 ?_ | refine Y4 ?_ _)); refine (Below.heap_setCell _ ⟨_, _, none⟩ _ _ N_0.out).trans ?_; (with_reducible repeat (first | refine Y5 ?_ _ | refine Y6 ?_ | refine Y4 ?_ _)); refine (Below.heap_setCell _ ⟨_, _, none⟩ _ _ N_0.out).trans ?_; (with_reducible repeat (first | refine Y5 ?_ _ | refine Y6 ?_ | refine Y4 ?_ _)); refine (Below.heap_setCell _ ⟨_, _, none⟩ _ _ N_0.out).trans ?_; (with_reducible repeat (first | refine Y5 ?_ _ | refine Y6 ?_ | refine Y4 ?_ _)); refine (Below.heap_setCell _ ⟨_, _, none⟩ _ _ N_0.out).trans ?_; (with_reducible repeat (first | refine Y5 ?_ _ | refine Y6 ?_ | refine Y4 ?_ _)); refine (Below.heap_setCell _ ⟨_, _, none⟩ _ _ N_0.out).trans ?_; (with_reducible repeat (first | refine Y5 ?_ _ | refine Y6 ?_ | refine Y4 ?_ _)); refine (Below.heap_setCell _ ⟨_, _, none⟩ _ _ N_0.out).trans ?_; (with_reducible repeat (first | refine Y5 ?_ _ | refine Y6 ?_ | refine Y4 ?_ _)); exact B_0.out⟩, ⟨hU HB.out⟩⟩
         ·replace c38 := Bool.eq_false_iff.mpr c38
          subst c38
          have H1 : (Ya.l0 k2 a1 t_0 t_6 x10_1 x11_1 (wrap64 (x12_1 + 1)) a0_0 l0_1) = some r := by rw [if_neg (show ¬ (false = true) by decide)] at H; exact H
          clear H
          have H := H1
          clear H1
          have H' := Y0.mk H
          clear H
          go_wp2
          repeat (go_quiet (fail); try go_wp2)
          go_roundg k2
          case measure => have := HK1.out; have := HK2.out; omega
          case rel => exact ⟨(x10_1), (x11_1), (wrap64 (x12_1 + 1)), reS, reS, reS, H', ⟨by have := HK1.out; have := HK2.out; omega⟩, ⟨by (with_reducible repeat (first | apply Kd.R_alloc | apply Kd.R_drewN | apply Kd.R_drew)); exact HO_7.out⟩, ⟨by (with_reducible repeat (first | apply Kd.R_alloc | apply Kd.R_drewN | apply Kd.R_drew)); exact HO_8.out⟩, ⟨kB B_0⟩, ⟨hU HB.out⟩⟩
     ·rw [if_neg c22] at H
      have c22b0 := decide_eq_false c22
      clear c22
      obtain ⟨c77, H⟩ := iS H
      have c77b0 := bqT c77
      have c77b1 := bnF c77
      clear c77
      obtain ⟨c78, H⟩ := iS H
      have c78b0 := bqT c78
      have c78b1 := bnF c78
      clear c78
      obtain ⟨t_e, A790, H⟩ := bS H
      replace H : (some t_e) = some r := H
      have A79 := Y0.mk A790
      clear A790
      obtain rfl := Option.some.inj H
      have z_21 := Y2 B_0.out
      have f_21 := Y7 B_0.out
      obtain ⟨Ao81, co81, eo81⟩ := Kd.R_slice HO_8.out
      subst eo81
      go_wp2_with (first | (go_at_call 18; (with_reducible refine (Y9.calls k1  t_e _ A79.out).mono ?_); rintro e w82 ⟨rfl, hb⟩; replace HO_7 := Y0.mk (Kd.R_below (Kd.rU HO_7.out) hb); replace HO_8 := Y0.mk (Kd.R_below (Kd.rU HO_8.out) hb); replace B_0 := Y0.mk (Y1 (bU B_0.out) hb); replace HB := Y0.mk (Y3 (hU HB.out) hb); (try clear hb); (try clear hb2); (try clear hk); (try clear hi)))
      repeat (go_quiet (first | (go_at_call 18; (with_reducible refine (Y9.calls k1  t_e _ A79.out).mono ?_); rintro e w82 ⟨rfl, hb⟩; replace HO_7 := Y0.mk (Kd.R_below (Kd.rU HO_7.out) hb); replace HO_8 := Y0.mk (Kd.R_below (Kd.rU HO_8.out) hb); replace B_0 := Y0.mk (Y1 (bU B_0.out) hb); replace HB := Y0.mk (Y3 (hU HB.out) hb); (try clear hb); (try clear hb2); (try clear hk); (try clear hi))); try go_wp2_with (first | (go_at_call 18; (with_reducible refine (Y9.calls k1  t_e _ A79.out).mono ?_); rintro e w82 ⟨rfl, hb⟩; replace HO_7 := Y0.mk (Kd.R_below (Kd.rU HO_7.out) hb); replace HO_8 := Y0.mk (Kd.R_below (Kd.rU HO_8.out) hb); replace B_0 := Y0.mk (Y1 (bU B_0.out) hb); replace HB := Y0.mk (Y3 (hU HB.out) hb); (try clear hb); (try clear hb2); (try clear hk); (try clear hi))))
      go_ret
      exact ⟨reT, hU HB.out⟩
  ·rw [if_neg c12] at H
   have c12b0 := bqF c12
   have c12b1 := bnT c12
   by_cases c83 : (t_0.length : Int) = 0
   rotate_left
   ·rw [if_neg c83] at H
    exact absurd H (by simp)
   rw [if_pos c83] at H
   have c83b0 := bqT c83
   have c83b1 := bnF c83
   clear c83
   obtain ⟨c84, H⟩ := iS H
   have c84b0 := bqT c84
   have c84b1 := bnF c84
   clear c84
   obtain ⟨t_b, A850, H⟩ := bS H
   replace H : (some t_b) = some r := H
   have A85 := Y0.mk A850
   clear A850
   obtain rfl := Option.some.inj H
   go_enter Try.func8, Try.ntmps8
   go_wp2_with (first | ((with_reducible refine Ye (N := 3) rfl ?_); (try (refine YC (by rfl) ?_; dsimp only)); refine Yh ?hg (N := 3) ?hd (cs := #[.int .i64 a0_0, .slice A0_1 l0_1.length c0_1]) (t := 24) ?hr ?_; (case hd => rfl); (case hg => rfl); (case hr => first | (go_simp; done) | (go_simp; rfl)); intro g_2 hg w86 hbox hb; have n0_ := Y0.mk (Y3 (hU HB.out) hb); have n1_ := Y0.mk (hbox); have n2_ := gE hg HB; have n3_ := gE hg HB; clear HB; have HB := n0_; have B_0 := n1_; have W_0 := n2_; have G_0 := n3_; clear n0_ n1_ n2_ n3_; clear hb hbox hg; have z_q := Y2 B_0.out; have f_h := Y7 B_0.out) | (go_at_call 22; (with_reducible refine (Yg.calls a0_0 _ _ l0_1 false _ ?side1 ?side2 A4.out).mono ?_); (case side1 => repeat (first | exact (Kd.C_below HR0_1.out HB.out) | (with_reducible refine Kd.C_alloc ?_ _) | (with_reducible refine Kd.C_drewN ?_ _) | (with_reducible refine Kd.C_drew ?_))); (case side2 => exact HC0_1.out); rintro e w88 ⟨rfl, hb⟩; replace B_0 := Y0.mk (Y1 (bU B_0.out) hb); replace HB := Y0.mk (Y3 (hU HB.out) hb); (try clear hb); (try clear hb2); (try clear hk); (try clear hi); have z_b := Y2 B_0.out; have f_i := Y7 B_0.out) | (go_at_call 23; (with_reducible refine (Yt.calls a0_0 _ _ l0_1 a1 a2 t_0 t_6 t_c _ ?side1 ?side2 A11.out).mono ?_); (case side1 => repeat (first | exact (Kd.C_below HR0_1.out HB.out) | (with_reducible refine Kd.C_alloc ?_ _) | (with_reducible refine Kd.C_drewN ?_ _) | (with_reducible refine Kd.C_drew ?_))); (case side2 => exact HC0_1.out); rintro e w90 ⟨v_1, v_0, rfl, ho0, ho1, hb⟩; replace O_0 := Y0.mk (Kd.R_lower ho0 (Yf (hU HB.out))); replace O_1 := Y0.mk (Kd.R_lower ho1 (Yf (hU HB.out))); replace B_0 := Y0.mk (Y1 (bU B_0.out) hb); replace HB := Y0.mk (Y3 (hU HB.out) hb); (try clear hb); (try clear hb2); (try clear hk); (try clear hi); (try clear ho0); (try clear ho1); obtain ⟨Ao91, co91, eo91⟩ := Kd.R_slice O_0.out; subst eo91; obtain ⟨Ao92, co92, eo92⟩ := Kd.R_slice O_1.out; subst eo92) | (go_at_call 18; (with_reducible refine (Y9.calls k  t_b _ A85.out).mono ?_); rintro e w93 ⟨rfl, hb⟩; replace O_0 := Y0.mk (Kd.R_below (Kd.rU O_0.out) hb); replace O_1 := Y0.mk (Kd.R_below (Kd.rU O_1.out) hb); replace B_0 := Y0.mk (Y1 (bU B_0.out) hb); replace HB := Y0.mk (Y3 (hU HB.out) hb); (try clear hb); (try clear hb2); (try clear hk); (try clear hi)))
   repeat (go_quiet (first | ((with_reducible refine Ye (N := 3) rfl ?_); (try (refine YC (by rfl) ?_; dsimp only)); refine Yh ?hg (N := 3) ?hd (cs := #[.int .i64 a0_0, .slice A0_1 l0_1.length c0_1]) (t := 24) ?hr ?_; (case hd => rfl); (case hg => rfl); (case hr => first | (go_simp; done) | (go_simp; rfl)); intro g_2 hg w86 hbox hb; have n0_ := Y0.mk (Y3 (hU HB.out) hb); have n1_ := Y0.mk (hbox); have n2_ := gE hg HB; have n3_ := gE hg HB; clear HB; have HB := n0_; have B_0 := n1_; have W_0 := n2_; have G_0 := n3_; clear n0_ n1_ n2_ n3_; clear hb hbox hg; have z_q := Y2 B_0.out; have f_h := Y7 B_0.out) | (go_at_call 22; (with_reducible refine (Yg.calls a0_0 _ _ l0_1 false _ ?side1 ?side2 A4.out).mono ?_); (case side1 => repeat (first | exact (Kd.C_below HR0_1.out HB.out) | (with_reducible refine Kd.C_alloc ?_ _) | (with_reducible refine Kd.C_drewN ?_ _) | (with_reducible refine Kd.C_drew ?_))); (case side2 => exact HC0_1.out); rintro e w88 ⟨rfl, hb⟩; replace B_0 := Y0.mk (Y1 (bU B_0.out) hb); replace HB := Y0.mk (Y3 (hU HB.out) hb); (try clear hb); (try clear hb2); (try clear hk); (try clear hi); have z_b := Y2 B_0.out; have f_i := Y7 B_0.out) | (go_at_call 23; (with_reducible refine (Yt.calls a0_0 _ _ l0_1 a1 a2 t_0 t_6 t_c _ ?side1 ?side2 A11.out).mono ?_); (case side1 => repeat (first | exact (Kd.C_below HR0_1.out HB.out) | (with_reducible refine Kd.C_alloc ?_ _) | (with_reducible refine Kd.C_drewN ?_ _) | (with_reducible refine Kd.C_drew ?_))); (case side2 => exact HC0_1.out); rintro e w90 ⟨v_1, v_0, rfl, ho0, ho1, hb⟩; replace O_0 := Y0.mk (Kd.R_lower ho0 (Yf (hU HB.out))); replace O_1 := Y0.mk (Kd.R_lower ho1 (Yf (hU HB.out))); replace B_0 := Y0.mk (Y1 (bU B_0.out) hb); replace HB := Y0.mk (Y3 (hU HB.out) hb); (try clear hb); (try clear hb2); (try clear hk); (try clear hi); (try clear ho0); (try clear ho1); obtain ⟨Ao91, co91, eo91⟩ := Kd.R_slice O_0.out; subst eo91; obtain ⟨Ao92, co92, eo92⟩ := Kd.R_slice O_1.out; subst eo92) | (go_at_call 18; (with_reducible refine (Y9.calls k  t_b _ A85.out).mono ?_); rintro e w93 ⟨rfl, hb⟩; replace O_0 := Y0.mk (Kd.R_below (Kd.rU O_0.out) hb); replace O_1 := Y0.mk (Kd.R_below (Kd.rU O_1.out) hb); replace B_0 := Y0.mk (Y1 (bU B_0.out) hb); replace HB := Y0.mk (Y3 (hU HB.out) hb); (try clear hb); (try clear hb2); (try clear hk); (try clear hi))); try go_wp2_with (first | ((with_reducible refine Ye (N := 3) rfl ?_); (try (refine YC (by rfl) ?_; dsimp only)); refine Yh ?hg (N := 3) ?hd (cs := #[.int .i64 a0_0, .slice A0_1 l0_1.length c0_1]) (t := 24) ?hr ?_; (case hd => rfl); (case hg => rfl); (case hr => first | (go_simp; done) | (go_simp; rfl)); intro g_2 hg w86 hbox hb; have n0_ := Y0.mk (Y3 (hU HB.out) hb); have n1_ := Y0.mk (hbox); have n2_ := gE hg HB; have n3_ := gE hg HB; clear HB; have HB := n0_; have B_0 := n1_; have W_0 := n2_; have G_0 := n3_; clear n0_ n1_ n2_ n3_; clear hb hbox hg; have z_q := Y2 B_0.out; have f_h := Y7 B_0.out) | (go_at_call 22; (with_reducible refine (Yg.calls a0_0 _ _ l0_1 false _ ?side1 ?side2 A4.out).mono ?_); (case side1 => repeat (first | exact (Kd.C_below HR0_1.out HB.out) | (with_reducible refine Kd.C_alloc ?_ _) | (with_reducible refine Kd.C_drewN ?_ _) | (with_reducible refine Kd.C_drew ?_))); (case side2 => exact HC0_1.out); rintro e w88 ⟨rfl, hb⟩; replace B_0 := Y0.mk (Y1 (bU B_0.out) hb); replace HB := Y0.mk (Y3 (hU HB.out) hb); (try clear hb); (try clear hb2); (try clear hk); (try clear hi); have z_b := Y2 B_0.out; have f_i := Y7 B_0.out) | (go_at_call 23; (with_reducible refine (Yt.calls a0_0 _ _ l0_1 a1 a2 t_0 t_6 t_c _ ?side1 ?side2 A11.out).mono ?_); (case side1 => repeat (first | exact (Kd.C_below HR0_1.out HB.out) | (with_reducible refine Kd.C_alloc ?_ _) | (with_reducible refine Kd.C_drewN ?_ _) | (with_reducible refine Kd.C_drew ?_))); (case side2 => exact HC0_1.out); rintro e w90 ⟨v_1, v_0, rfl, ho0, ho1, hb⟩; replace O_0 := Y0.mk (Kd.R_lower ho0 (Yf (hU HB.out))); replace O_1 := Y0.mk (Kd.R_lower ho1 (Yf (hU HB.out))); replace B_0 := Y0.mk (Y1 (bU B_0.out) hb); replace HB := Y0.mk (Y3 (hU HB.out) hb); (try clear hb); (try clear hb2); (try clear hk); (try clear hi); (try clear ho0); (try clear ho1); obtain ⟨Ao91, co91, eo91⟩ := Kd.R_slice O_0.out; subst eo91; obtain ⟨Ao92, co92, eo92⟩ := Kd.R_slice O_1.out; subst eo92) | (go_at_call 18; (with_reducible refine (Y9.calls k  t_b _ A85.out).mono ?_); rintro e w93 ⟨rfl, hb⟩; replace O_0 := Y0.mk (Kd.R_below (Kd.rU O_0.out) hb); replace O_1 := Y0.mk (Kd.R_below (Kd.rU O_1.out) hb); replace B_0 := Y0.mk (Y1 (bU B_0.out) hb); replace HB := Y0.mk (Y3 (hU HB.out) hb); (try clear hb); (try clear hb2); (try clear hk); (try clear hi))))
   go_ret
   exact ⟨reT, hU HB.out⟩
end Go.Proofs.Yteopkkoblbmggaa.P
end

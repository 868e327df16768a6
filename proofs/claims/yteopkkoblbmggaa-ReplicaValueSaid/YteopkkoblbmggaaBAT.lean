/- Texts of this claim in one: VP37; no condition. -/
import Derived.Test.YteopkkoblbmggaaBAC
import Derived.Test.YteopkkoblbmggaaBAE
section
namespace Go.Proofs.Yteopkkoblbmggaa.P
open Go.RowKit Go.Proofs.YteopkkoblbmggaaW.PrintWords Go.Proofs.YteopkkoblbmggaaW.PrintLast Go.Proofs.YteopkkoblbmggaaW.PrintMore
attribute [local go_sem] Y10 Y12 Y19 Y1a YM YN Y11 Y13
set_option linter.unusedVariables false
set_option linter.unusedSimpArgs false
attribute [local go_sem high] eqA26
def Ys.l0 : Nat → List (S30) → Int → Bool → Int → Int → Int → Int → Int → Int → Int → Int → Bool → Int → Int → Int → Int → Int → Int → Int → Option (Int × Int × Int × Int × Int × Bool × Int × Int × Int × Int × Int × Int × Int × Bool)
 | 0, _, _, _, _, _, _, _, _, _, _, _, _, _, _, _, _, _, _, _ => none
 | k + 1, x0, x1, x9, x10, x_1, x_0, x_8, x_e, x_9, x_4, x_5, x_b, x_c, x_d, x_6, x_3, x_a, x_7, x_2 => if x10 < (x0.length : Int) then (if 0 ≤ x10 then (if ((Y1 x0 x10).f1) = x1 then (if (((Y1 x0 x10).f2.f0) == x_1 && (((Y1 x0 x10).f2.f1) == x_0)) = true then (Ys.l0 k x0 x1 true (wrap64 (x10 + 1)) x_1 x_0 ((Y1 x0 x10).f0.f0) ((Y1 x0 x10).f0.f1) ((Y1 x0 x10).f1) ((Y1 x0 x10).f2.f0) ((Y1 x0 x10).f2.f1) ((Y1 x0 x10).f3) ((Y1 x0 x10).f4.f0) ((Y1 x0 x10).f4.f1) ((Y1 x0 x10).f4.f2) ((Y1 x0 x10).f4.f3) ((Y1 x0 x10).f4.f4) ((Y1 x0 x10).f4.f5) ((Y1 x0 x10).f4.f6)) else (Ys.l0 k x0 x1 x9 (wrap64 (x10 + 1)) x_1 x_0 x_8 x_e x_9 x_4 x_5 x_b x_c x_d x_6 x_3 x_a x_7 x_2)) else (Ys.l0 k x0 x1 x9 (wrap64 (x10 + 1)) x_1 x_0 x_8 x_e x_9 x_4 x_5 x_b x_c x_d x_6 x_3 x_a x_7 x_2)) else (none)) else (some (x_8, x_e, x_9, x_4, x_5, x_b, x_c, x_d, x_6, x_3, x_a, x_7, x_2, x9))
def Ys.f (k : Nat) (l0 : List (S30)) (a1 : Int) (a2_0 : Int) (a2_1 : Int) : Option (Int × Int × Int × Int × Int × Bool × Int × Int × Int × Int × Int × Int × Int × Bool) := Ys.l0 k l0 a1 false 0 a2_0 a2_1 0 0 0 0 0 false 0 0 0 0 0 0 0
theorem Ys.mono_l : ∀ k, (∀ y0 y1 y2 y3 y4 y5 y6 y7 y8 y9 y10 y11 y12 y13 y14 y15 y16 y17 y18, LeO (Ys.l0 k y0 y1 y2 y3 y4 y5 y6 y7 y8 y9 y10 y11 y12 y13 y14 y15 y16 y17 y18) (Ys.l0 (k + 1) y0 y1 y2 y3 y4 y5 y6 y7 y8 y9 y10 y11 y12 y13 y14 y15 y16 y17 y18))
 | 0 => fun _ _ _ _ _ _ _ _ _ _ _ _ _ _ _ _ _ _ _ r h => by simp [Ys.l0] at h
 | k + 1 => by
  have ih0 := Ys.mono_l k
  ·intro y0 y1 y2 y3 y4 y5 y6 y7 y8 y9 y10 y11 y12 y13 y14 y15 y16 y17 y18
   unfold Ys.l0
   repeat' first
   | (with_reducible exact ih0 _ _ _ _ _ _ _ _ _ _ _ _ _ _ _ _ _ _ _)
   | (with_reducible exact LeO.refl _)
   | (with_reducible exact LeO.none _)
   | (with_reducible refine LeO.ite ?_ ?_)
   | (with_reducible refine LeO.bind ?_ (fun _ => ?_))
theorem Ys.mono : ∀ a0 a1 a2 a3 k, LeO (Ys.f k a0 a1 a2 a3) (Ys.f (k + 1) a0 a1 a2 a3) := by
 intro a0 a1 a2 a3 k
 have ih0 := Ys.mono_l k
 unfold Ys.f
 repeat' first
   | (with_reducible exact ih0 _ _ _ _ _ _ _ _ _ _ _ _ _ _ _ _ _ _ _)
   | (with_reducible exact LeO.refl _)
   | (with_reducible exact LeO.none _)
   | (with_reducible refine LeO.ite ?_ ?_)
   | (with_reducible refine LeO.bind ?_ (fun _ => ?_))
set_option maxHeartbeats 8000000 in
set_option maxRecDepth 100000 in
theorem Ys.calls (k : Nat) (A0 : Option Addr) (c0 : Nat) (l0 : List (S30)) (a1 : Int) (a2_0 : Int) (a2_1 : Int) (r1 : Int) (r2 : Int) (r3 : Int) (r4 : Int) (r5 : Int) (r6 : Bool) (r7 : Int) (r8 : Int) (r9 : Int) (r10 : Int) (r11 : Int) (r12 : Int) (r13 : Int) (r14 : Bool) (w : World) (hr0 : Kd.C k30 w A0 l0.length l0) (hc0 : l0.length ≤ c0) (h : Ys.f k l0 a1 a2_0 a2_1 = some (r1, r2, r3, r4, r5, r6, r7, r8, r9, r10, r11, r12, r13, r14)) :
  Calls Try.prog 72 #[.slice A0 l0.length c0, .int .i64 a1, .agg #[.int .i64 a2_0, .int .i64 a2_1]] w fun e w' => e = .returned (.tuple #[.agg #[.int .i64 r1, .int .i64 r2, .int .i64 r3, .int .i64 r4, .int .i64 r5, .bool r6, .int .i64 r7, .int .i64 r8, .int .i64 r9, .int .i64 r10, .int .i64 r11, .int .i64 r12, .int .i64 r13], .bool r14]) ∧ Below w.heap.size w w' := by
 have hu26 := Try.underlying26
 have hu30 := Try.underlying30
 have HR0 := Y0.mk hr0
 have HC0 := Y0.mk hc0
 clear hr0 hc0
 have HB := Y0.mk (Below.refl w.heap.size w)
 have H : (Ys.l0 k l0 a1 false 0 a2_0 a2_1 0 0 0 0 0 false 0 0 0 0 0 0 0) = some (r1, r2, r3, r4, r5, r6, r7, r8, r9, r10, r11, r12, r13, r14) := h
 clear h
 have H' := Y0.mk H
 clear H
 go_enter Try.func72, Try.ntmps72
 go_wp2_with (first | ((with_reducible refine Yf (N := 5) rfl ?_); refine Yg ?hg (N := 5) ?hd (cs := #[.int .i64 a2_0, .int .i64 a2_1]) (t := 26) ?hr ?_; (case hd => rfl); (case hg => rfl); (case hr => first | (go_simp; done) | (go_simp; rfl)); intro g_1 hg w4 hbox hb; have n0_ := Y0.mk (Y7 (hU HB.out) hb); have n1_ := Y0.mk (hbox); have n2_ := gE hg HB; have n3_ := gE hg HB; clear HB; have HB := n0_; have B_0 := n1_; have W_0 := n2_; have G_1 := n3_; clear n0_ n1_ n2_ n3_; clear hb hbox hg) | ((with_reducible refine Yf (N := 6) rfl ?_); refine Yg ?hg (N := 6) ?hd (cs := #[.int .i64 0, .int .i64 0, .int .i64 0, .int .i64 0, .int .i64 0, .bool false, .int .i64 0, .int .i64 0, .int .i64 0, .int .i64 0, .int .i64 0, .int .i64 0, .int .i64 0]) (t := 30) ?hr ?_; (case hd => rfl); (case hg => rfl); (case hr => first | (go_simp; done) | (go_simp; rfl)); intro g_0 hg w5 hbox hb; have n0_ := Y0.mk (Y3 (bU B_0.out) hb); have n1_ := Y0.mk (Y7 (hU HB.out) hb); have n2_ := Y0.mk (hbox); have n3_ := gE hg HB; have n4_ := gE hg HB; have n5_ := gL hg B_0; have n6_ := gG hg B_0; clear B_0; clear HB; have B_0 := n0_; have HB := n1_; have B_1 := n2_; have W_1 := n3_; have G_0 := n4_; have N_5 := n5_; have N_4 := n6_; clear n0_ n1_ n2_ n3_ n4_ n5_ n6_; clear hb hbox hg) | ((with_reducible refine Yf (N := 8) rfl ?_); refine Yg ?hg (N := 8) ?hd (cs := #[.int .i64 0, .int .i64 0, .int .i64 0, .int .i64 0, .int .i64 0, .bool false, .int .i64 0, .int .i64 0, .int .i64 0, .int .i64 0, .int .i64 0, .int .i64 0, .int .i64 0]) (t := 30) ?hr ?_; (case hd => rfl); (case hg => rfl); (case hr => first | (go_simp; done) | (go_simp; rfl)); intro g_2 hg w6 hbox hb; have n0_ := Y0.mk (Y3 (bU B_0.out) hb); have n1_ := Y0.mk (Y3 (bU B_1.out) hb); have n2_ := Y0.mk (Y7 (hU HB.out) hb); have n3_ := Y0.mk (hbox); have n4_ := gE hg HB; have n5_ := gE hg HB; have n6_ := gL hg B_0; have n7_ := gG hg B_0; have n8_ := gL hg B_1; have n9_ := gG hg B_1; clear B_0; clear B_1; clear HB; have B_0 := n0_; have B_1 := n1_; have HB := n2_; have B_2 := n3_; have W_2 := n4_; have G_2 := n5_; have N_0 := n6_; have N_2 := n7_; have N_1 := n8_; have N_3 := n9_; clear n0_ n1_ n2_ n3_ n4_ n5_ n6_ n7_ n8_ n9_; clear hb hbox hg; have hnb7 := N_2.out; have hnc7 := N_0.out; have hnb8 := N_3.out; have hnc8 := N_1.out; have z_0 := Y2 B_2.out; have f_0 := Y5 B_2.out))
 repeat (go_quiet (first | ((with_reducible refine Yf (N := 5) rfl ?_); refine Yg ?hg (N := 5) ?hd (cs := #[.int .i64 a2_0, .int .i64 a2_1]) (t := 26) ?hr ?_; (case hd => rfl); (case hg => rfl); (case hr => first | (go_simp; done) | (go_simp; rfl)); intro g_1 hg w4 hbox hb; have n0_ := Y0.mk (Y7 (hU HB.out) hb); have n1_ := Y0.mk (hbox); have n2_ := gE hg HB; have n3_ := gE hg HB; clear HB; have HB := n0_; have B_0 := n1_; have W_0 := n2_; have G_1 := n3_; clear n0_ n1_ n2_ n3_; clear hb hbox hg) | ((with_reducible refine Yf (N := 6) rfl ?_); refine Yg ?hg (N := 6) ?hd (cs := #[.int .i64 0, .int .i64 0, .int .i64 0, .int .i64 0, .int .i64 0, .bool false, .int .i64 0, .int .i64 0, .int .i64 0, .int .i64 0, .int .i64 0, .int .i64 0, .int .i64 0]) (t := 30) ?hr ?_; (case hd => rfl); (case hg => rfl); (case hr => first | (go_simp; done) | (go_simp; rfl)); intro g_0 hg w5 hbox hb; have n0_ := Y0.mk (Y3 (bU B_0.out) hb); have n1_ := Y0.mk (Y7 (hU HB.out) hb); have n2_ := Y0.mk (hbox); have n3_ := gE hg HB; have n4_ := gE hg HB; have n5_ := gL hg B_0; have n6_ := gG hg B_0; clear B_0; clear HB; have B_0 := n0_; have HB := n1_; have B_1 := n2_; have W_1 := n3_; have G_0 := n4_; have N_5 := n5_; have N_4 := n6_; clear n0_ n1_ n2_ n3_ n4_ n5_ n6_; clear hb hbox hg) | ((with_reducible refine Yf (N := 8) rfl ?_); refine Yg ?hg (N := 8) ?hd (cs := #[.int .i64 0, .int .i64 0, .int .i64 0, .int .i64 0, .int .i64 0, .bool false, .int .i64 0, .int .i64 0, .int .i64 0, .int .i64 0, .int .i64 0, .int .i64 0, .int .i64 0]) (t := 30) ?hr ?_; (case hd => rfl); (case hg => rfl); (case hr => first | (go_simp; done) | (go_simp; rfl)); intro g_2 hg w6 hbox hb; have n0_ := Y0.mk (Y3 (bU B_0.out) hb); have n1_ := Y0.mk (Y3 (bU B_1.out) hb); have n2_ := Y0.mk (Y7 (hU HB.out) hb); have n3_ := Y0.mk (hbox); have n4_ := gE hg HB; have n5_ := gE hg HB; have n6_ := gL hg B_0; have n7_ := gG hg B_0; have n8_ := gL hg B_1; have n9_ := gG hg B_1; clear B_0; clear B_1; clear HB; have B_0 := n0_; have B_1 := n1_; have HB := n2_; have B_2 := n3_; have W_2 := n4_; have G_2 := n5_; have N_0 := n6_; have N_2 := n7_; have N_1 := n8_; have N_3 := n9_; clear n0_ n1_ n2_ n3_ n4_ n5_ n6_ n7_ n8_ n9_; clear hb hbox hg; have hnb7 := N_2.out; have hnc7 := N_0.out; have hnb8 := N_3.out; have hnc8 := N_1.out; have z_0 := Y2 B_2.out; have f_0 := Y5 B_2.out)); try go_wp2_with (first | ((with_reducible refine Yf (N := 5) rfl ?_); refine Yg ?hg (N := 5) ?hd (cs := #[.int .i64 a2_0, .int .i64 a2_1]) (t := 26) ?hr ?_; (case hd => rfl); (case hg => rfl); (case hr => first | (go_simp; done) | (go_simp; rfl)); intro g_1 hg w4 hbox hb; have n0_ := Y0.mk (Y7 (hU HB.out) hb); have n1_ := Y0.mk (hbox); have n2_ := gE hg HB; have n3_ := gE hg HB; clear HB; have HB := n0_; have B_0 := n1_; have W_0 := n2_; have G_1 := n3_; clear n0_ n1_ n2_ n3_; clear hb hbox hg) | ((with_reducible refine Yf (N := 6) rfl ?_); refine Yg ?hg (N := 6) ?hd (cs := #[.int .i64 0, .int .i64 0, .int .i64 0, .int .i64 0, .int .i64 0, .bool false, .int .i64 0, .int .i64 0, .int .i64 0, .int .i64 0, .int .i64 0, .int .i64 0, .int .i64 0]) (t := 30) ?hr ?_; (case hd => rfl); (case hg => rfl); (case hr => first | (go_simp; done) | (go_simp; rfl)); intro g_0 hg w5 hbox hb; have n0_ := Y0.mk (Y3 (bU B_0.out) hb); have n1_ := Y0.mk (Y7 (hU HB.out) hb); have n2_ := Y0.mk (hbox); have n3_ := gE hg HB; have n4_ := gE hg HB; have n5_ := gL hg B_0; have n6_ := gG hg B_0; clear B_0; clear HB; have B_0 := n0_; have HB := n1_; have B_1 := n2_; have W_1 := n3_; have G_0 := n4_; have N_5 := n5_; have N_4 := n6_; clear n0_ n1_ n2_ n3_ n4_ n5_ n6_; clear hb hbox hg) | ((with_reducible refine Yf (N := 8) rfl ?_); refine Yg ?hg (N := 8) ?hd (cs := #[.int .i64 0, .int .i64 0, .int .i64 0, .int .i64 0, .int .i64 0, .bool false, .int .i64 0, .int .i64 0, .int .i64 0, .int .i64 0, .int .i64 0, .int .i64 0, .int .i64 0]) (t := 30) ?hr ?_; (case hd => rfl); (case hg => rfl); (case hr => first | (go_simp; done) | (go_simp; rfl)); intro g_2 hg w6 hbox hb; have n0_ := Y0.mk (Y3 (bU B_0.out) hb); have n1_ := Y0.mk (Y3 (bU B_1.out) hb); have n2_ := Y0.mk (Y7 (hU HB.out) hb); have n3_ := Y0.mk (hbox); have n4_ := gE hg HB; have n5_ := gE hg HB; have n6_ := gL hg B_0; have n7_ := gG hg B_0; have n8_ := gL hg B_1; have n9_ := gG hg B_1; clear B_0; clear B_1; clear HB; have B_0 := n0_; have B_1 := n1_; have HB := n2_; have B_2 := n3_; have W_2 := n4_; have G_2 := n5_; have N_0 := n6_; have N_2 := n7_; have N_1 := n8_; have N_3 := n9_; clear n0_ n1_ n2_ n3_ n4_ n5_ n6_ n7_ n8_ n9_; clear hb hbox hg; have hnb7 := N_2.out; have hnc7 := N_0.out; have hnb8 := N_3.out; have hnc8 := N_1.out; have z_0 := Y2 B_2.out; have f_0 := Y5 B_2.out)))
 go_loopg [9, 10] k (fun kq v9 v10 w' => ∃ (x9_1 : Bool) (x10_1 : Int) (x611000_1 : Int) (x611001_1 : Int) (x611002_1 : Int) (x611003_1 : Int) (x611004_1 : Int) (x611005_1 : Bool) (x611006_1 : Int) (x611007_1 : Int) (x611008_1 : Int) (x611009_1 : Int) (x611010_1 : Int) (x611011_1 : Int) (x611012_1 : Int), v9 = .bool x9_1 ∧ v10 = .int .i64 x10_1 ∧ Y0 (Ys.l0 kq l0 a1 x9_1 x10_1 a2_0 a2_1 x611000_1 x611001_1 x611002_1 x611003_1 x611004_1 x611005_1 x611006_1 x611007_1 x611008_1 x611009_1 x611010_1 x611011_1 x611012_1 = some (r1, r2, r3, r4, r5, r6, r7, r8, r9, r10, r11, r12, r13, r14)) ∧ Y0 (kq ≤ k) ∧ Y0 (w'.heap[g_1]? = some (.cells #[.int .i64 a2_0, .int .i64 a2_1] 26 (0, 0))) ∧ Y0 (w'.heap[g_0]? = some (.cells #[.int .i64 0, .int .i64 0, .int .i64 0, .int .i64 0, .int .i64 0, .bool false, .int .i64 0, .int .i64 0, .int .i64 0, .int .i64 0, .int .i64 0, .int .i64 0, .int .i64 0] 30 (0, 0))) ∧ Y0 (w'.heap[g_2]? = some (.cells #[.int .i64 x611000_1, .int .i64 x611001_1, .int .i64 x611002_1, .int .i64 x611003_1, .int .i64 x611004_1, .bool x611005_1, .int .i64 x611006_1, .int .i64 x611007_1, .int .i64 x611008_1, .int .i64 x611009_1, .int .i64 x611010_1, .int .i64 x611011_1, .int .i64 x611012_1] 30 (0, 0))) ∧ Y0 (Below w.heap.size w w'))
 case atStart => exact ⟨(false), (0), (0), (0), (0), (0), (0), (false), (0), (0), (0), (0), (0), (0), (0), reS, reS, H', ⟨Nat.le_refl _⟩, ⟨by (with_reducible repeat (first | refine Y8 ?_ _ | refine Y6 ?_ | refine Y4 ?_ _)); refine (Below.heap_setCell _ ⟨_, _, none⟩ _ _ N_0.out).trans ?_; (with_reducible repeat (first | refine Y8 ?_ _ | refine Y6 ?_ | refine Y4 ?_ _)); refine (Below.heap_setCell _ ⟨_, _, none⟩ _ _ N_0.out).trans ?_; (with_reducible repeat (first | refine Y8 ?_ _ | refine Y6 ?_ | refine Y4 ?_ _)); refine (Below.heap_setCell _ ⟨_, _, none⟩ _ _ N_0.out).trans ?_; (with_reducible repeat (first | refine Y8 ?_ _ | refine Y6 ?_ | refine Y4 ?_ _)); refine (Below.heap_setCell _ ⟨_, _, none⟩ _ _ N_0.out).trans ?_; (with_reducible repeat (first | refine Y8 ?_ _ | refine Y6 ?_ | refine Y4 ?_ _)); refine (Below.heap_setCell _ ⟨_, _, none⟩ _ _ N_0.out).trans ?_; (with_reducible repeat (first | refine Y8 ?_ _ | refine Y6 ?_ | refine Y4 ?_ _)); refine (Below.heap_setCell _ ⟨_, _, none⟩ _ _ N_0.out).trans ?_; (with_reducible repeat (first | refine Y8 ?_ _ | refine Y6 ?_ | refine Y4 ?_ _)); refine (Below.heap_setCell _ ⟨_, _, none⟩ _ _ N_0.out).trans ?_; (with_reducible repeat (first | refine Y8 ?_ _ | refine Y6 ?_ | refine Y4 ?_ _)); refine (Below.heap_setCell _ ⟨_, _, none⟩ _ _ N_0.out).trans ?_; (with_reducible repeat (first | refine Y8 ?_ _ | refine Y6 ?_ | refine Y4 ?_ _)); refine (Below.heap_setCell _ ⟨_, _, none⟩ _ _ N_0.out).trans ?_; (with_reducible repeat (first | refine Y8 ?_ _ | refine Y6 ?_ | refine Y4 ?_ _)); refine (Below.heap_setCell _ ⟨_, _, none⟩ _ _ N_0.out).trans ?_; (with_reducible repeat (first | refine Y8 ?_ _ | refine Y6 ?_ | refine Y4 ?_ _)); refine (Below.heap_setCell _ ⟨_, _, none⟩ _ _ N_0.out).trans ?_; (with_reducible repeat (first | refine Y8 ?_ _ | refine Y6 ?_ | refine Y4 ?_ _)); refine (Below.heap_setCell _ ⟨_, _, none⟩ _ _ N_0.out).trans ?_; (with_reducible repeat (first | refine Y8 ?_ _ | refine Y6 ?_ | refine Y4 ?_ _)); refine (Below.heap_setCell _ ⟨_, _, none⟩ _ _ N_0.out).trans ?_; (with_reducible repeat (first | refine Y8 ?_ _ | refine Y6 ?_ | refine Y4 ?_ _)); exact B_0.out⟩, ⟨by (with_reducible repeat (first | refine Y8 ?_ _ | refine Y6 ?_ | refine Y4 ?_ _)); refine (Below.heap_setCell _ ⟨_, _, none⟩ _ _ N_1.out).trans ?_; (with_reducible repeat (first | refine Y8 ?_ _ | refine Y6 ?_ | refine Y4 ?_ _)); refine (Below.heap_setCell _ ⟨_, _, none⟩ _ _ N_1.out).trans ?_; (with_reducible repeat (first | refine Y8 ?_ _ | refine Y6 ?_ | refine Y4 ?_ _)); refine (Below.heap_setCell _ ⟨_, _, none⟩ _ _ N_1.out).trans ?_; (with_reducible repeat (first | refine Y8 ?_ _ | refine Y6 ?_ | refine Y4 ?_ _)); refine (Below.heap_setCell _ ⟨_, _, none⟩ _ _ N_1.out).trans ?_; (with_reducible repeat (first | refine Y8 ?_ _ | refine Y6 ?_ | refine Y4 ?_ _)); refine (Below.heap_setCell _ ⟨_, _, none⟩ _ _ N_1.out).trans ?_; (with_reducible repeat (first | refine Y8 ?_ _ | refine Y6 ?_ | refine Y4 ?_ _)); refine (Below.heap_setCell _ ⟨_, _, none⟩ _ _ N_1.out).trans ?_; (with_reducible repeat (first | refine Y8 ?_ _ | refine Y6 ?_ | refine Y4 ?_ _)); refine (Below.heap_setCell _ ⟨_, _, none⟩ _ _ N_1.out).trans ?_; (with_reducible repeat (first | refine Y8 ?_ _ | refine Y6 ?_ | refine Y4 ?_ _)); refine (Below.heap_setCell _ ⟨_, _, none⟩ _ _ N_1.out).trans ?_; (with_reducible repeat (first | refine Y8 ?_ _ | refine Y6 ?_ | refine Y4 ?_ _)); refine (Below.heap_setCell _ ⟨_, _, none⟩ _ _ N_1.out).trans ?_; (with_reducible repeat (first | refine Y8 ?_ _ | refine Y6 ?_ | refine Y4 ?_ _)); refine (Below.heap_setCell _ ⟨_, _, none⟩ _ _ N_1.out).trans ?_; (with_reducible repeat (first | refine Y8 ?_ _ | refine Y6 ?_ | refine Y4 ?_ _)); refine (Below.heap_setCell _ ⟨_, _, none⟩ _ _ N_1.out).trans ?_; (with_reducible repeat (first | refine Y8 ?_ _ | refine Y6 ?_ | refine Y4 ?_ _)); refine (Below.heap_setCell _ ⟨_, _, none⟩ _ _ N_1.out).trans ?_; (with_reducible repeat (first | refine Y8 ?_ _ | refine Y6 ?_ | refine Y4 ?_ _)); refine (Below.heap_setCell _ ⟨_, _, none⟩ _ _ N_1.out).trans ?_; (with_reducible repeat (first | refine Y8 ?_ _ | refine Y6 ?_ | refine Y4 ?_ _)); exact B_1.out⟩, ⟨by (with_reducible repeat (first | refine Y8 ?_ _ | refine Y6 ?_ | refine Y4 ?_ _)); refine Yq (cs := #[.int .i64 0, .int .i64 0, .int .i64 0, .int .i64 0, .int .i64 0, .bool false, .int .i64 0, .int .i64 0, .int .i64 0, .int .i64 0, .int .i64 0, .int .i64 0, .int .i64 0]) ?_ 12 _ rfl; (with_reducible repeat (first | refine Y8 ?_ _ | refine Y6 ?_ | refine Y4 ?_ _)); refine Yq (cs := #[.int .i64 0, .int .i64 0, .int .i64 0, .int .i64 0, .int .i64 0, .bool false, .int .i64 0, .int .i64 0, .int .i64 0, .int .i64 0, .int .i64 0, .int .i64 0, .int .i64 0]) ?_ 11 _ rfl; (with_reducible repeat (first | refine Y8 ?_ _ | refine Y6 ?_ | refine Y4 ?_ _)); refine Yq (cs := #[.int .i64 0, .int .i64 0, .int .i64 0, .int .i64 0, .int .i64 0, .bool false, .int .i64 0, .int .i64 0, .int .i64 0, .int .i64 0, .int .i64 0, .int .i64 0, .int .i64 0]) ?_ 10 _ rfl; (with_reducible repeat (first | refine Y8 ?_ _ | refine Y6 ?_ | refine Y4 ?_ _)); refine Yq (cs := #[.int .i64 0, .int .i64 0, .int .i64 0, .int .i64 0, .int .i64 0, .bool false, .int .i64 0, .int .i64 0, .int .i64 0, .int .i64 0, .int .i64 0, .int .i64 0, .int .i64 0]) ?_ 9 _ rfl; (with_reducible repeat (first | refine Y8 ?_ _ | refine Y6 ?_ | refine Y4 ?_ _)); refine Yq (cs := #[.int .i64 0, .int .i64 0, .int .i64 0, .int .i64 0, .int .i64 0, .bool false, .int .i64 0, .int .i64 0, .int .i64 0, .int .i64 0, .int .i64 0, .int .i64 0, .int .i64 0]) ?_ 8 _ rfl; (with_reducible repeat (first | refine Y8 ?_ _ | refine Y6 ?_ | refine Y4 ?_ _)); refine Yq (cs := #[.int .i64 0, .int .i64 0, .int .i64 0, .int .i64 0, .int .i64 0, .bool false, .int .i64 0, .int .i64 0, .int .i64 0, .int .i64 0, .int .i64 0, .int .i64 0, .int .i64 0]) ?_ 7 _ rfl; (with_reducible repeat (first | refine Y8 ?_ _ | refine Y6 ?_ | refine Y4 ?_ _)); refine Yq (cs := #[.int .i64 0, .int .i64 0, .int .i64 0, .int .i64 0, .int .i64 0, .bool false, .int .i64 0, .int .i64 0, .int .i64 0, .int .i64 0, .int .i64 0, .int .i64 0, .int .i64 0]) ?_ 6 _ rfl; (with_reducible repeat (first | refine Y8 ?_ _ | refine Y6 ?_ | refine Y4 ?_ _)); refine Yq (cs := #[.int .i64 0, .int .i64 0, .int .i64 0, .int .i64 0, .int .i64 0, .bool false, .int .i64 0, .int .i64 0, .int .i64 0, .int .i64 0, .int .i64 0, .int .i64 0, .int .i64 0]) ?_ 5 _ rfl; (with_reducible repeat (first | refine Y8 ?_ _ | refine Y6 ?_ | refine Y4 ?_ _)); refine Yq (cs := #[.int .i64 0, .int .i64 0, .int .i64 0, .int .i64 0, .int .i64 0, .bool false, .int .i64 0, .int .i64 0, .int .i64 0, .int .i64 0, .int .i64 0, .int .i64 0, .int .i64 0]) ?_ 4 _ rfl; (with_reducible repeat (first | refine Y8 ?_ _ | refine Y6 ?_ | refine Y4 ?_ _)); refine Yq (cs := #[.int .i64 0, .int .i64 0, .int .i64 0, .int .i64 0, .int .i64 0, .bool false, .int .i64 0, .int .i64 0, .int .i64 0, .int .i64 0, .int .i64 0, .int .i64 0, .int .i64 0]) ?_ 3 _ rfl; (with_reducible repeat (first | refine Y8 ?_ _ | refine Y6 ?_ | refine Y4 ?_ _)); refine Yq (cs := #[.int .i64 0, .int .i64 0, .int .i64 0, .int .i64 0, .int .i64 0, .bool false, .int .i64 0, .int .i64 0, .int .i64 0, .int .i64 0, .int .i64 0, .int .i64 0, .int .i64 0]) ?_ 2 _ rfl; (with_reducible repeat (first | refine Y8 ?_ _ | refine Y6 ?_ | refine Y4 ?_ _)); refine Yq (cs := #[.int .i64 0, .int .i64 0, .int .i64 0, .int .i64 0, .int .i64 0, .bool false, .int .i64 0, .int .i64 0, .int .i64 0, .int .i64 0, .int .i64 0, .int .i64 0, .int .i64 0]) ?_ 1 _ rfl; (with_reducible repeat (first | refine Y8 ?_ _ | refine Y6 ?_ | refine Y4 ?_ _)); refine Yq (cs := #[.int .i64 0, .int .i64 0, .int .i64 0, .int .i64 0, .int .i64 0, .bool false, .int .i64 0, .int .i64 0, .int .i64 0, .int .i64 0, .int .i64 0, .int .i64 0, .int .i64 0]) ?_ 0 _ rfl; (with_reducible repeat (first | refine Y8 ?_ _ | refine Y6 ?_ | refine Y4 ?_ _)); exact B_2.out⟩, ⟨hU HB.out⟩⟩
 case round =>
  clear H'
  try clear p2
  try clear c7
  try clear c8
  try clear z_0
  try clear z_f
  try clear z_9
  try clear z_d
  try clear z_g
  try clear z_a
  try clear z_e
  try clear z_c
  try clear z_2
  try clear z_3
  try clear z_1
  try clear z_4
  try clear z_8
  try clear f_0
  try clear f_c
  try clear f_h
  try clear f_7
  try clear f_a
  try clear f_3
  try clear f_8
  try clear f_b
  try clear f_e
  try clear f_4
  try clear f_1
  try clear f_2
  try clear f_f
  obtain ⟨x9_1, x10_1, x611000_1, x611001_1, x611002_1, x611003_1, x611004_1, x611005_1, x611006_1, x611007_1, x611008_1, x611009_1, x611010_1, x611011_1, x611012_1, rfl, rfl, HA, HK1, B_0, B_1, B_2, HB⟩ := hrel
  cases gk with
  | zero => exact absurd HA.out (by simp [Ys.l0])
  | succ k1 =>
   have H := HA.out
   clear HA
   simp only [Ys.l0] at H
   by_cases c10 : x10_1 < (l0.length : Int)
   ·rw [if_pos c10] at H
    have c10b0 := decide_eq_true c10
    clear c10
    obtain ⟨c11, H⟩ := iS H
    have c11b0 := decide_eq_true c11
    clear c11
    by_cases c12 : ((Y1 l0 x10_1).f1) = a1
    ·rw [if_pos c12] at H
     have c12b0 := bqT c12
     have c12b1 := bnF c12
     clear c12
     by_cases c13 : (((Y1 l0 x10_1).f2.f0) == a2_0 && (((Y1 l0 x10_1).f2.f1) == a2_1)) = true
     ·rw [if_pos c13] at H
      have c13b0 : (((Y1 l0 x10_1).f2.f0) == a2_0 && (((Y1 l0 x10_1).f2.f1) == a2_1)) = true := c13
      (try (have c13b1 : decide (((Y1 l0 x10_1).f2.f0) = a2_0 && (((Y1 l0 x10_1).f2.f1) == a2_1)) = true := by simpa using c13))
      (try (have c13b2 : (((Y1 l0 x10_1).f2.f0) == a2_0 && (((Y1 l0 x10_1).f2.f1) == a2_1)) = true := by simpa using c13))
      clear c13
      have H' := Y0.mk H
      clear H
      have p611 : 0 ≤ (x10_1 : Int) := of_decide_eq_true (by first | (with_reducible assumption) | assumption)
      have q611 : x10_1 < (l0.length : Int) := of_decide_eq_true (by first | (with_reducible assumption) | assumption)
      obtain ⟨d_0, e611, m_7, m_c, m_2, m_1, m_5, m_a, m_b, m_6, m_8, m_9, m_4, m_0, m_3⟩ := Y1c HR0.out x10_1 p611 q611
      cases e611
      replace m_7 := hbC HB m_7
      replace m_c := hbC HB m_c
      replace m_2 := hbC HB m_2
      replace m_1 := hbC HB m_1
      replace m_5 := hbC HB m_5
      replace m_a := hbC HB m_a
      replace m_b := hbC HB m_b
      replace m_6 := hbC HB m_6
      replace m_8 := hbC HB m_8
      replace m_9 := hbC HB m_9
      replace m_4 := hbC HB m_4
      replace m_0 := hbC HB m_0
      replace m_3 := hbC HB m_3
      replace p611 := eq_true p611
      replace q611 := eq_true q611
      have p612 : 0 ≤ (x10_1 : Int) := of_decide_eq_true (by first | (with_reducible assumption) | assumption)
      have q612 : x10_1 < (l0.length : Int) := of_decide_eq_true (by first | (with_reducible assumption) | assumption)
      obtain ⟨d_1, e612, m_p, m_n, m_e, m_d, m_k, m_h, m_i, m_g, m_l, m_m, m_f, m_o, m_j⟩ := Y1c HR0.out x10_1 p612 q612
      obtain rfl : d_0 = d_1 := (by injection e612)
      replace m_p := hbC HB m_p
      replace m_n := hbC HB m_n
      replace m_e := hbC HB m_e
      replace m_d := hbC HB m_d
      replace m_k := hbC HB m_k
      replace m_h := hbC HB m_h
      replace m_i := hbC HB m_i
      replace m_g := hbC HB m_g
      replace m_l := hbC HB m_l
      replace m_m := hbC HB m_m
      replace m_f := hbC HB m_f
      replace m_o := hbC HB m_o
      replace m_j := hbC HB m_j
      replace p612 := eq_true p612
      replace q612 := eq_true q612
      have hnb14 := N_5.out
      have hnc14 := N_4.out
      have hnb15 := N_0.out
      have hnc15 := N_2.out
      have z_5 := Y2 B_0.out
      have f_9 := Y5 B_0.out
      have p613 : 0 ≤ (x10_1 : Int) := of_decide_eq_true (by first | (with_reducible assumption) | assumption)
      have q613 : x10_1 < (l0.length : Int) := of_decide_eq_true (by first | (with_reducible assumption) | assumption)
      obtain ⟨d_2, e613, m_10, m_11, m_t, m_r, m_s, m_q, m_x, m_v, m_z, m_y, m_12, m_w, m_u⟩ := Y1c HR0.out x10_1 p613 q613
      obtain rfl : d_0 = d_2 := (by injection e613)
      replace m_10 := hbC HB m_10
      replace m_11 := hbC HB m_11
      replace m_t := hbC HB m_t
      replace m_r := hbC HB m_r
      replace m_s := hbC HB m_s
      replace m_q := hbC HB m_q
      replace m_x := hbC HB m_x
      replace m_v := hbC HB m_v
      replace m_z := hbC HB m_z
      replace m_y := hbC HB m_y
      replace m_12 := hbC HB m_12
      replace m_w := hbC HB m_w
      replace m_u := hbC HB m_u
      replace p613 := eq_true p613
      replace q613 := eq_true q613
      have hnb17 := N_3.out
      have hnc17 := N_1.out
      have z_6 := Y2 B_2.out
      have f_d := Y5 B_2.out
      go_wp2
      repeat (go_quiet (fail); try go_wp2)
      go_roundg k1
      case measure => have := HK1.out; omega
      case rel => exact ⟨(true), (wrap64 (x10_1 + 1)), ((Y1 l0 x10_1).f0.f0), ((Y1 l0 x10_1).f0.f1), ((Y1 l0 x10_1).f1), ((Y1 l0 x10_1).f2.f0), ((Y1 l0 x10_1).f2.f1), ((Y1 l0 x10_1).f3), ((Y1 l0 x10_1).f4.f0), ((Y1 l0 x10_1).f4.f1), ((Y1 l0 x10_1).f4.f2), ((Y1 l0 x10_1).f4.f3), ((Y1 l0 x10_1).f4.f4), ((Y1 l0 x10_1).f4.f5), ((Y1 l0 x10_1).f4.f6), reS, reS, H', ⟨by have := HK1.out; omega⟩, ⟨by (with_reducible repeat (first | refine Y8 ?_ _ | refine Y6 ?_ | refine Y4 ?_ _)); refine (Below.heap_setCell _ ⟨_, _, none⟩ _ _ N_0.out).trans ?_; (with_reducible repeat (first | refine Y8 ?_ _ | refine Y6 ?_ | refine Y4 ?_ _)); refine (Below.heap_setCell _ ⟨_, _, none⟩ _ _ N_0.out).trans ?_; (with_reducible repeat (first | refine Y8 ?_ _ | refine Y6 ?_ | refine Y4 ?_ _)); refine (Below.heap_setCell _ ⟨_, _, none⟩ _ _ N_0.out).trans ?_; (with_reducible repeat (first | refine Y8 ?_ _ | refine Y6 ?_ | refine Y4 ?_ _)); refine (Below.heap_setCell _ ⟨_, _, none⟩ _ _ N_0.out).trans ?_; (with_reducible repeat (first | refine Y8 ?_ _ | refine Y6 ?_ | refine Y4 ?_ _)); refine (Below.heap_setCell _ ⟨_, _, none⟩ _ _ N_0.out).trans ?_; (with_reducible repeat (first | refine Y8 ?_ _ | refine Y6 ?_ | refine Y4 ?_ _)); refine (Below.heap_setCell _ ⟨_, _, none⟩ _ _ N_0.out).trans ?_; (with_reducible repeat (first | refine Y8 ?_ _ | refine Y6 ?_ | refine Y4 ?_ _)); refine (Below.heap_setCell _ ⟨_, _, none⟩ _ _ N_0.out).trans ?_; (with_reducible repeat (first | refine Y8 ?_ _ | refine Y6 ?_ | refine Y4 ?_ _)); refine (Below.heap_setCell _ ⟨_, _, none⟩ _ _ N_0.out).trans ?_; (with_reducible repeat (first | refine Y8 ?_ _ | refine Y6 ?_ | refine Y4 ?_ _)); refine (Below.heap_setCell _ ⟨_, _, none⟩ _ _ N_0.out).trans ?_; (with_reducible repeat (first | refine Y8 ?_ _ | refine Y6 ?_ | refine Y4 ?_ _)); refine (Below.heap_setCell _ ⟨_, _, none⟩ _ _ N_0.out).trans ?_; (with_reducible repeat (first | refine Y8 ?_ _ | refine Y6 ?_ | refine Y4 ?_ _)); refine (Below.heap_setCell _ ⟨_, _, none⟩ _ _ N_0.out).trans ?_; (with_reducible repeat (first | refine Y8 ?_ _ | refine Y6 ?_ | refine Y4 ?_ _)); refine (Below.heap_setCell _ ⟨_, _, none⟩ _ _ N_0.out).trans ?_; (with_reducible repeat (first | refine Y8 ?_ _ | refine Y6 ?_ | refine Y4 ?_ _)); refine (Below.heap_setCell _ ⟨_, _, none⟩ _ _ N_0.out).trans ?_; (with_reducible repeat (first | refine Y8 ?_ _ | refine Y6 ?_ | refine Y4 ?_ _)); exact B_0.out⟩, ⟨by (with_reducible repeat (first | refine Y8 ?_ _ | refine Y6 ?_ | refine Y4 ?_ _)); refine (Below.heap_setCell _ ⟨_, _, none⟩ _ _ N_1.out).trans ?_; (with_reducible repeat (first | refine Y8 ?_ _ | refine Y6 ?_ | refine Y4 ?_ _)); refine (Below.heap_setCell _ ⟨_, _, none⟩ _ _ N_1.out).trans ?_; (with_reducible repeat (first | refine Y8 ?_ _ | refine Y6 ?_ | refine Y4 ?_ _)); refine (Below.heap_setCell _ ⟨_, _, none⟩ _ _ N_1.out).trans ?_; (with_reducible repeat (first | refine Y8 ?_ _ | refine Y6 ?_ | refine Y4 ?_ _)); refine (Below.heap_setCell _ ⟨_, _, none⟩ _ _ N_1.out).trans ?_; (with_reducible repeat (first | refine Y8 ?_ _ | refine Y6 ?_ | refine Y4 ?_ _)); refine (Below.heap_setCell _ ⟨_, _, none⟩ _ _ N_1.out).trans ?_; (with_reducible repeat (first | refine Y8 ?_ _ | refine Y6 ?_ | refine Y4 ?_ _)); refine (Below.heap_setCell _ ⟨_, _, none⟩ _ _ N_1.out).trans ?_; (with_reducible repeat (first | refine Y8 ?_ _ | refine Y6 ?_ | refine Y4 ?_ _)); refine (Below.heap_setCell _ ⟨_, _, none⟩ _ _ N_1.out).trans ?_; (with_reducible repeat (first | refine Y8 ?_ _ | refine Y6 ?_ | refine Y4 ?_ _)); refine (Below.heap_setCell _ ⟨_, _, none⟩ _ _ N_1.out).trans ?_; (with_reducible repeat (first | refine Y8 ?_ _ | refine Y6 ?_ | refine Y4 ?_ _)); refine (Below.heap_setCell _ ⟨_, _, none⟩ _ _ N_1.out).trans ?_; (with_reducible repeat (first | refine Y8 ?_ _ | refine Y6 ?_ | refine Y4 ?_ _)); refine (Below.heap_setCell _ ⟨_, _, none⟩ _ _ N_1.out).trans ?_; (with_reducible repeat (first | refine Y8 ?_ _ | refine Y6 ?_ | refine Y4 ?_ _)); refine (Below.heap_setCell _ ⟨_, _, none⟩ _ _ N_1.out).trans ?_; (with_reducible repeat (first | refine Y8 ?_ _ | refine Y6 ?_ | refine Y4 ?_ _)); refine (Below.heap_setCell _ ⟨_, _, none⟩ _ _ N_1.out).trans ?_; (with_reducible repeat (first | refine Y8 ?_ _ | refine Y6 ?_ | refine Y4 ?_ _)); refine (Below.heap_setCell _ ⟨_, _, none⟩ _ _ N_1.out).trans ?_; (with_reducible repeat (first | refine Y8 ?_ _ | refine Y6 ?_ | refine Y4 ?_ _)); exact B_1.out⟩, ⟨by (with_reducible repeat (first | refine Y8 ?_ _ | refine Y6 ?_ | refine Y4 ?_ _)); refine Yq (cs := #[.int .i64 ((Y1 l0 x10_1).f0.f0), .int .i64 ((Y1 l0 x10_1).f0.f1), .int .i64 ((Y1 l0 x10_1).f1), .int .i64 ((Y1 l0 x10_1).f2.f0), .int .i64 ((Y1 l0 x10_1).f2.f1), .bool ((Y1 l0 x10_1).f3), .int .i64 ((Y1 l0 x10_1).f4.f0), .int .i64 ((Y1 l0 x10_1).f4.f1), .int .i64 ((Y1 l0 x10_1).f4.f2), .int .i64 ((Y1 l0 x10_1).f4.f3), .int .i64 ((Y1 l0 x10_1).f4.f4), .int .i64 ((Y1 l0 x10_1).f4.f5), .int .i64 x611012_1]) ?_ 12 _ rfl; (with_reducible repeat (first | refine Y8 ?_ _ | refine Y6 ?_ | refine Y4 ?_ _)); refine Yq (cs := #[.int .i64 ((Y1 l0 x10_1).f0.f0), .int .i64 ((Y1 l0 x10_1).f0.f1), .int .i64 ((Y1 l0 x10_1).f1), .int .i64 ((Y1 l0 x10_1).f2.f0), .int .i64 ((Y1 l0 x10_1).f2.f1), .bool ((Y1 l0 x10_1).f3), .int .i64 ((Y1 l0 x10_1).f4.f0), .int .i64 ((Y1 l0 x10_1).f4.f1), .int .i64 ((Y1 l0 x10_1).f4.f2), .int .i64 ((Y1 l0 x10_1).f4.f3), .int .i64 ((Y1 l0 x10_1).f4.f4), .int .i64 x611011_1, .int .i64 x611012_1]) ?_ 11 _ rfl; (with_reducible repeat (first | refine Y8 ?_ _ | refine Y6 ?_ | refine Y4 ?_ _)); refine Yq (cs := #[.int .i64 ((Y1 l0 x10_1).f0.f0), .int .i64 ((Y1 l0 x10_1).f0.f1), .int .i64 ((Y1 l0 x10_1).f1), .int .i64 ((Y1 l0 x10_1).f2.f0), .int .i64 ((Y1 l0 x10_1).f2.f1), .bool ((Y1 l0 x10_1).f3), .int .i64 ((Y1 l0 x10_1).f4.f0), .int .i64 ((Y1 l0 x10_1).f4.f1), .int .i64 ((Y1 l0 x10_1).f4.f2), .int .i64 ((Y1 l0 x10_1).f4.f3), .int .i64 x611010_1, .int .i64 x611011_1, .int .i64 x611012_1]) ?_ 10 _ rfl; (with_reducible repeat (first | refine Y8 ?_ _ | refine Y6 ?_ | refine Y4 ?_ _)); refine Yq (cs := #[.int .i64 ((Y1 l0 x10_1).f0.f0), .int .i64 ((Y1 l0 x10_1).f0.f1), .int .i64 ((Y1 l0 x10_1).f1), .int .i64 ((Y1 l0 x10_1).f2.f0), .int .i64 ((Y1 l0 x10_1).f2.f1), .bool ((Y1 l0 x10_1).f3), .int .i64 ((Y1 l0 x10_1).f4.f0), .int .i64 ((Y1 l0 x10_1).f4.f1), .int .i64 ((Y1 l0 x10_1).f4.f2), .int .i64 x611009_1, .int .i64 x611010_1, .int .i64 x611011_1, .int .i64 x611012_1]) ?_ 9 _ rfl; (with_reducible repeat (first | refine Y8 ?_ _ | refine Y6 ?_ | refine Y4 ?_ _)); refine Yq (cs := #[.int .i64 ((Y1 l0 x10_1).f0.f0), .int .i64 ((Y1 l0 x10_1).f0.f1), .int .i64 ((Y1 l0 x10_1).f1), .int .i64 ((Y1 l0 x10_1).f2.f0), .int .i64 ((Y1 l0 x10_1).f2.f1), .bool ((Y1 l0 x10_1).f3), .int .i64 ((Y1 l0 x10_1).f4.f0), .int .i64 ((Y1 l0 x10_1).f4.f1), .int .i64 x611008_1, .int .i64 x611009_1, .int .i64 x611010_1, .int .i64 x611011_1, .int .i64 x611012_1]) ?_ 8 _ rfl; (with_reducible repeat (first | refine Y8 ?_ _ | refine Y6 ?_ | refine Y4 ?_ _)); refine Yq (cs := #[.int .i64 ((Y1 l0 x10_1).f0.f0), .int .i64 ((Y1 l0 x10_1).f0.f1), .int .i64 ((Y1 l0 x10_1).f1), .int .i64 ((Y1 l0 x10_1).f2.f0), .int .i64 ((Y1 l0 x10_1).f2.f1), .bool ((Y1 l0 x10_1).f3), .int .i64 ((Y1 l0 x10_1).f4.f0), .int .i64 x611007_1, .int .i64 x611008_1, .int .i64 x611009_1, .int .i64 x611010_1, .int .i64 x611011_1, .int .i64 x611012_1]) ?_ 7 _ rfl; (with_reducible repeat (first | refine Y8 ?_ _ | refine Y6 ?_ | refine Y4 ?_ _)); refine Yq (cs := #[.int .i64 ((Y1 l0 x10_1).f0.f0), .int .i64 ((Y1 l0 x10_1).f0.f1), .int .i64 ((Y1 l0 x10_1).f1), .int .i64 ((Y1 l0 x10_1).f2.f0), .int .i64 ((Y1 l0 x10_1).f2.f1), .bool ((Y1 l0 x10_1).f3), .int .i64 x611006_1, .int .i64 x611007_1, .int .i64 x611008_1, .int .i64 x611009_1, .int .i64 x611010_1, .int .i64 x611011_1, .int .i64 x611012_1]) ?_ 6 _ rfl; (with_reducible repeat (first | refine Y8 ?_ _ | refine Y6 ?_ | refine Y4 ?_ _)); refine Yq (cs := #[.int .i64 ((Y1 l0 x10_1).f0.f0), .int .i64 ((Y1 l0 x10_1).f0.f1), .int .i64 ((Y1 l0 x10_1).f1), .int .i64 ((Y1 l0 x10_1).f2.f0), .int .i64 ((Y1 l0 x10_1).f2.f1), .bool x611005_1, .int .i64 x611006_1, .int .i64 x611007_1, .int .i64 x611008_1, .int .i64 x611009_1, .int .i64 x611010_1, .int .i64 x611011_1, .int .i64 x611012_1]) ?_ 5 _ rfl; (with_reducible repeat (first | refine Y8 ?_ _ | refine Y6 ?_ | refine Y4 ?_ _)); refine Yq (cs := #[.int .i64 ((Y1 l0 x10_1).f0.f0), .int .i64 ((Y1 l0 x10_1).f0.f1), .int .i64 ((Y1 l0 x10_1).f1), .int .i64 ((Y1 l0 x10_1).f2.f0), .int .i64 x611004_1, .bool x611005_1, .int .i64 x611006_1, .int .i64 x611007_1, .int .i64 x611008_1, .int .i64 x611009_1, .int .i64 x611010_1, .int .i64 x611011_1, .int .i64 x611012_1]) ?_ 4 _ rfl; (with_reducible repeat (first | refine Y8 ?_ _ | refine Y6 ?_ | refine Y4 ?_ _)); refine Yq (cs := #[.int .i64 ((Y1 l0 x10_1).f0.f0), .int .i64 ((Y1 l0 x10_1).f0.f1), .int .i64 ((Y1 l0 x10_1).f1), .int .i64 x611003_1, .int .i64 x611004_1, .bool x611005_1, .int .i64 x611006_1, .int .i64 x611007_1, .int .i64 x611008_1, .int .i64 x611009_1, .int .i64 x611010_1, .int .i64 x611011_1, .int .i64 x611012_1]) ?_ 3 _ rfl; (with_reducible repeat (first | refine Y8 ?_ _ | refine Y6 ?_ | refine Y4 ?_ _)); refine Yq (cs := #[.int .i64 ((Y1 l0 x10_1).f0.f0), .int .i64 ((Y1 l0 x10_1).f0.f1), .int .i64 x611002_1, .int .i64 x611003_1, .int .i64 x611004_1, .bool x611005_1, .int .i64 x611006_1, .int .i64 x611007_1, .int .i64 x611008_1, .int .i64 x611009_1, .int .i64 x611010_1, .int .i64 x611011_1, .int .i64 x611012_1]) ?_ 2 _ rfl; (with_reducible repeat (first | refine Y8 ?_ _ | refine Y6 ?_ | refine Y4 ?_ _)); refine Yq (cs := #[.int .i64 ((Y1 l0 x10_1).f0.f0), .int .i64 x611001_1, .int .i64 x611002_1, .int .i64 x611003_1, .int .i64 x611004_1, .bool x611005_1, .int .i64 x611006_1, .int .i64 x611007_1, .int .i64 x611008_1, .int .i64 x611009_1, .int .i64 x611010_1, .int .i64 x611011_1, .int .i64 x611012_1]) ?_ 1 _ rfl; (with_reducible repeat (first | refine Y8 ?_ _ | refine Y6 ?_ | refine Y4 ?_ _)); refine Yq (cs := #[.int .i64 x611000_1, .int .i64 x611001_1, .int .i64 x611002_1, .int .i64 x611003_1, .int .i64 x611004_1, .bool x611005_1, .int .i64 x611006_1, .int .i64 x611007_1, .int .i64 x611008_1, .int .i64 x611009_1, .int .i64 x611010_1, .int .i64 x611011_1, .int .i64 x611012_1]) ?_ 0 _ rfl; (with_reducible repeat (first | refine Y8 ?_ _ | refine Y6 ?_ | refine Y4 ?_ _)); exact B_2.out⟩, ⟨hU HB.out⟩⟩
     ·rw [if_neg c13] at H
      have c13b0 : (((Y1 l0 x10_1).f2.f0) == a2_0 && (((Y1 l0 x10_1).f2.f1) == a2_1)) = false := by simpa using c13
      (try (have c13b1 : decide (((Y1 l0 x10_1).f2.f0) = a2_0 && (((Y1 l0 x10_1).f2.f1) == a2_1)) = false := by simpa using c13))
      (try (have c13b2 : (((Y1 l0 x10_1).f2.f0) == a2_0 && (((Y1 l0 x10_1).f2.f1) == a2_1)) = false := by simpa using c13))
      (try (have c13b3 : ¬ (((Y1 l0 x10_1).f2.f0) = a2_0 && (((Y1 l0 x10_1).f2.f1) == a2_1)) := by simpa using c13))
      clear c13
      have H' := Y0.mk H
      clear H
      have p611 : 0 ≤ (x10_1 : Int) := of_decide_eq_true (by first | (with_reducible assumption) | assumption)
      have q611 : x10_1 < (l0.length : Int) := of_decide_eq_true (by first | (with_reducible assumption) | assumption)
      obtain ⟨d_0, e611, m_7, m_c, m_2, m_1, m_5, m_a, m_b, m_6, m_8, m_9, m_4, m_0, m_3⟩ := Y1c HR0.out x10_1 p611 q611
      cases e611
      replace m_7 := hbC HB m_7
      replace m_c := hbC HB m_c
      replace m_2 := hbC HB m_2
      replace m_1 := hbC HB m_1
      replace m_5 := hbC HB m_5
      replace m_a := hbC HB m_a
      replace m_b := hbC HB m_b
      replace m_6 := hbC HB m_6
      replace m_8 := hbC HB m_8
      replace m_9 := hbC HB m_9
      replace m_4 := hbC HB m_4
      replace m_0 := hbC HB m_0
      replace m_3 := hbC HB m_3
      replace p611 := eq_true p611
      replace q611 := eq_true q611
      have p612 : 0 ≤ (x10_1 : Int) := of_decide_eq_true (by first | (with_reducible assumption) | assumption)
      have q612 : x10_1 < (l0.length : Int) := of_decide_eq_true (by first | (with_reducible assumption) | assumption)
      obtain ⟨d_1, e612, m_p, m_n, m_e, m_d, m_k, m_h, m_i, m_g, m_l, m_m, m_f, m_o, m_j⟩ := Y1c HR0.out x10_1 p612 q612
      obtain rfl : d_0 = d_1 := (by injection e612)
      replace m_p := hbC HB m_p
      replace m_n := hbC HB m_n
      replace m_e := hbC HB m_e
      replace m_d := hbC HB m_d
      replace m_k := hbC HB m_k
      replace m_h := hbC HB m_h
      replace m_i := hbC HB m_i
      replace m_g := hbC HB m_g
      replace m_l := hbC HB m_l
      replace m_m := hbC HB m_m
      replace m_f := hbC HB m_f
      replace m_o := hbC HB m_o
      replace m_j := hbC HB m_j
      replace p612 := eq_true p612
      replace q612 := eq_true q612
      have hnb19 := N_5.out
      have hnc19 := N_4.out
      have hnb20 := N_0.out
      have hnc20 := N_2.out
      have z_h := Y2 B_0.out
      have f_5 := Y5 B_0.out
      go_wp2
      repeat (go_quiet (fail); try go_wp2)
      go_roundg k1
      case measure => have := HK1.out; omega
      case rel => exact ⟨(x9_1), (wrap64 (x10_1 + 1)), (x611000_1), (x611001_1), (x611002_1), (x611003_1), (x611004_1), (x611005_1), (x611006_1), (x611007_1), (x611008_1), (x611009_1), (x611010_1), (x611011_1), (x611012_1), reS, reS, H', ⟨by have := HK1.out; omega⟩, ⟨kB B_0⟩, ⟨kB B_1⟩, ⟨kB B_2⟩, ⟨hU HB.out⟩⟩
    ·rw [if_neg c12] at H
     have c12b0 := bqF c12
     have c12b1 := bnT c12
     have H' := Y0.mk H
     clear H
     have p611 : 0 ≤ (x10_1 : Int) := of_decide_eq_true (by first | (with_reducible assumption) | assumption)
     have q611 : x10_1 < (l0.length : Int) := of_decide_eq_true (by first | (with_reducible assumption) | assumption)
     obtain ⟨d_0, e611, m_7, m_c, m_2, m_1, m_5, m_a, m_b, m_6, m_8, m_9, m_4, m_0, m_3⟩ := Y1c HR0.out x10_1 p611 q611
     cases e611
     replace m_7 := hbC HB m_7
     replace m_c := hbC HB m_c
     replace m_2 := hbC HB m_2
     replace m_1 := hbC HB m_1
     replace m_5 := hbC HB m_5
     replace m_a := hbC HB m_a
     replace m_b := hbC HB m_b
     replace m_6 := hbC HB m_6
     replace m_8 := hbC HB m_8
     replace m_9 := hbC HB m_9
     replace m_4 := hbC HB m_4
     replace m_0 := hbC HB m_0
     replace m_3 := hbC HB m_3
     replace p611 := eq_true p611
     replace q611 := eq_true q611
     go_wp2
     repeat (go_quiet (fail); try go_wp2)
     go_roundg k1
     case measure => have := HK1.out; omega
     case rel => exact ⟨(x9_1), (wrap64 (x10_1 + 1)), (x611000_1), (x611001_1), (x611002_1), (x611003_1), (x611004_1), (x611005_1), (x611006_1), (x611007_1), (x611008_1), (x611009_1), (x611010_1), (x611011_1), (x611012_1), reS, reS, H', ⟨by have := HK1.out; omega⟩, ⟨kB B_0⟩, ⟨kB B_1⟩, ⟨kB B_2⟩, ⟨hU HB.out⟩⟩
   ·rw [if_neg c10] at H
    have c10b0 := decide_eq_false c10
    clear c10
    simp only [Option.some.injEq, Prod.mk.injEq] at H
    obtain ⟨rfl, rfl, rfl, rfl, rfl, rfl, rfl, rfl, rfl, rfl, rfl, rfl, rfl, rfl⟩ := H
    have hnb22 := N_2.out
    have hnc22 := N_0.out
    have hnb23 := N_3.out
    have hnc23 := N_1.out
    have z_7 := Y2 B_2.out
    have f_6 := Y5 B_2.out
    have hnb25 := N_4.out
    have hnc25 := N_5.out
    have z_b := Y2 B_1.out
    have f_g := Y5 B_1.out
    go_wp2
    repeat (go_quiet (fail); try go_wp2)
    refine bodyPost_ret (Y1h rfl _ _ g_0 30 #[.int .i64 x611000_1, .int .i64 x611001_1, .int .i64 x611002_1, .int .i64 x611003_1, .int .i64 x611004_1, .bool x611005_1, .int .i64 x611006_1, .int .i64 x611007_1, .int .i64 x611008_1, .int .i64 x611009_1, .int .i64 x611010_1, .int .i64 x611011_1, .int .i64 x611012_1] (0, 0) _ rfl (by (with_reducible repeat (first | refine Y8 ?_ _ | refine Y6 ?_ | refine Y4 ?_ _)); apply Yq; (iterate 12 ((with_reducible repeat (first | refine Y8 ?_ _ | refine Y6 ?_ | refine Y4 ?_ _)); apply Y1r)); (with_reducible repeat (first | refine Y8 ?_ _ | refine Y6 ?_ | refine Y4 ?_ _)); exact B_1.out; simp only [List.setIfInBounds_toArray, List.set_cons_zero, List.set_cons_succ]) Try.underlying30 rfl (by kernel_rfl)) rfl ?_
    exact ⟨reT, hU HB.out⟩
end Go.Proofs.Yteopkkoblbmggaa.P
end

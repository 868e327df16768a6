/- Texts of this claim in one: VP37, VP38; no condition. -/
import Derived.Test.YteopkkoblbmggaaCAC
import Derived.Test.YteopkkoblbmggaaCAE
section
namespace Go.Proofs.Yteopkkoblbmggaa.P
open Go.RowKit Go.Proofs.YteopkkoblbmggaaW.PrintWords Go.Proofs.YteopkkoblbmggaaW.PrintLast Go.Proofs.YteopkkoblbmggaaW.PrintMore
attribute [local go_sem] YU YW Y14 Y15 YJ YK YV YX
set_option linter.unusedVariables false
set_option linter.unusedSimpArgs false
attribute [local go_sem high] eqA26
def Yr.l0 : Nat → List (S30) → Int → Bool → Int → Int → Int → Int → Int → Int → Int → Int → Bool → Int → Int → Int → Int → Int → Int → Int → Option (Int × Int × Int × Int × Int × Bool × Int × Int × Int × Int × Int × Int × Int × Bool)
 | 0, _, _, _, _, _, _, _, _, _, _, _, _, _, _, _, _, _, _, _ => none
 | k + 1, x0, x1, x9, x10, x_0, x_1, x_6, x_c, x_d, x_7, x_4, x_2, x_e, x_3, x_8, x_9, x_5, x_b, x_a => if x10 < (x0.length : Int) then (if 0 ≤ x10 then (if ((Y7 x0 x10).f1) = x1 then (if (((Y7 x0 x10).f2.f0) == x_0 && (((Y7 x0 x10).f2.f1) == x_1)) = true then (Yr.l0 k x0 x1 true (wrap64 (x10 + 1)) x_0 x_1 ((Y7 x0 x10).f0.f0) ((Y7 x0 x10).f0.f1) ((Y7 x0 x10).f1) ((Y7 x0 x10).f2.f0) ((Y7 x0 x10).f2.f1) ((Y7 x0 x10).f3) ((Y7 x0 x10).f4.f0) ((Y7 x0 x10).f4.f1) ((Y7 x0 x10).f4.f2) ((Y7 x0 x10).f4.f3) ((Y7 x0 x10).f4.f4) ((Y7 x0 x10).f4.f5) ((Y7 x0 x10).f4.f6)) else (Yr.l0 k x0 x1 x9 (wrap64 (x10 + 1)) x_0 x_1 x_6 x_c x_d x_7 x_4 x_2 x_e x_3 x_8 x_9 x_5 x_b x_a)) else (Yr.l0 k x0 x1 x9 (wrap64 (x10 + 1)) x_0 x_1 x_6 x_c x_d x_7 x_4 x_2 x_e x_3 x_8 x_9 x_5 x_b x_a)) else (none)) else (some (x_6, x_c, x_d, x_7, x_4, x_2, x_e, x_3, x_8, x_9, x_5, x_b, x_a, x9))
def Yr.f (k : Nat) (l0 : List (S30)) (a1 : Int) (a2_0 : Int) (a2_1 : Int) : Option (Int × Int × Int × Int × Int × Bool × Int × Int × Int × Int × Int × Int × Int × Bool) := Yr.l0 k l0 a1 false 0 a2_0 a2_1 0 0 0 0 0 false 0 0 0 0 0 0 0
theorem Yr.mono_l : ∀ k, (∀ y0 y1 y2 y3 y4 y5 y6 y7 y8 y9 y10 y11 y12 y13 y14 y15 y16 y17 y18, LeO (Yr.l0 k y0 y1 y2 y3 y4 y5 y6 y7 y8 y9 y10 y11 y12 y13 y14 y15 y16 y17 y18) (Yr.l0 (k + 1) y0 y1 y2 y3 y4 y5 y6 y7 y8 y9 y10 y11 y12 y13 y14 y15 y16 y17 y18))
 | 0 => fun _ _ _ _ _ _ _ _ _ _ _ _ _ _ _ _ _ _ _ r h => by simp [Yr.l0] at h
 | k + 1 => by
  have ih0 := Yr.mono_l k
  ·intro y0 y1 y2 y3 y4 y5 y6 y7 y8 y9 y10 y11 y12 y13 y14 y15 y16 y17 y18
   unfold Yr.l0
   repeat' first
   | (with_reducible exact ih0 _ _ _ _ _ _ _ _ _ _ _ _ _ _ _ _ _ _ _)
   | (with_reducible exact LeO.refl _)
   | (with_reducible exact LeO.none _)
   | (with_reducible refine LeO.ite ?_ ?_)
   | (with_reducible refine LeO.bind ?_ (fun _ => ?_))
theorem Yr.mono : ∀ a0 a1 a2 a3 k, LeO (Yr.f k a0 a1 a2 a3) (Yr.f (k + 1) a0 a1 a2 a3) := by
 intro a0 a1 a2 a3 k
 have ih0 := Yr.mono_l k
 unfold Yr.f
 repeat' first
   | (with_reducible exact ih0 _ _ _ _ _ _ _ _ _ _ _ _ _ _ _ _ _ _ _)
   | (with_reducible exact LeO.refl _)
   | (with_reducible exact LeO.none _)
   | (with_reducible refine LeO.ite ?_ ?_)
   | (with_reducible refine LeO.bind ?_ (fun _ => ?_))
set_option maxHeartbeats 8000000 in
set_option maxRecDepth 100000 in
theorem Yr.calls (k : Nat) (A0 : Option Addr) (c0 : Nat) (l0 : List (S30)) (a1 : Int) (a2_0 : Int) (a2_1 : Int) (r1 : Int) (r2 : Int) (r3 : Int) (r4 : Int) (r5 : Int) (r6 : Bool) (r7 : Int) (r8 : Int) (r9 : Int) (r10 : Int) (r11 : Int) (r12 : Int) (r13 : Int) (r14 : Bool) (w : World) (hr0 : Kd.C k30 w A0 l0.length l0) (hc0 : l0.length ≤ c0) (h : Yr.f k l0 a1 a2_0 a2_1 = some (r1, r2, r3, r4, r5, r6, r7, r8, r9, r10, r11, r12, r13, r14)) :
  Calls Try.prog 72 #[.slice A0 l0.length c0, .int .i64 a1, .agg #[.int .i64 a2_0, .int .i64 a2_1]] w fun e w' => e = .returned (.tuple #[.agg #[.int .i64 r1, .int .i64 r2, .int .i64 r3, .int .i64 r4, .int .i64 r5, .bool r6, .int .i64 r7, .int .i64 r8, .int .i64 r9, .int .i64 r10, .int .i64 r11, .int .i64 r12, .int .i64 r13], .bool r14]) ∧ Below w.heap.size w w' := by
 have hu26 := Try.underlying26
 have hu30 := Try.underlying30
 have HR0 := Y0.mk hr0
 have HC0 := Y0.mk hc0
 clear hr0 hc0
 have HB := Y0.mk (Below.refl w.heap.size w)
 have H : (Yr.l0 k l0 a1 false 0 a2_0 a2_1 0 0 0 0 0 false 0 0 0 0 0 0 0) = some (r1, r2, r3, r4, r5, r6, r7, r8, r9, r10, r11, r12, r13, r14) := h
 clear h
 have H' := Y0.mk H
 clear H
 go_enter Try.func72, Try.ntmps72
 go_wp2_with (first | ((with_reducible refine Yj (N := 5) rfl ?_); refine Yl ?hg (N := 5) ?hd (cs := #[.int .i64 a2_0, .int .i64 a2_1]) (t := 26) ?hr ?_; (case hd => rfl); (case hg => rfl); (case hr => first | (go_simp; done) | (go_simp; rfl)); intro g_2 hg w4 hbox hb; have n0_ := Y0.mk (Y4 (hU HB.out) hb); have n1_ := Y0.mk (hbox); have n2_ := gE hg HB; have n3_ := gE hg HB; clear HB; have HB := n0_; have B_0 := n1_; have W_2 := n2_; have G_2 := n3_; clear n0_ n1_ n2_ n3_; clear hb hbox hg) | ((with_reducible refine Yj (N := 6) rfl ?_); refine Yl ?hg (N := 6) ?hd (cs := #[.int .i64 0, .int .i64 0, .int .i64 0, .int .i64 0, .int .i64 0, .bool false, .int .i64 0, .int .i64 0, .int .i64 0, .int .i64 0, .int .i64 0, .int .i64 0, .int .i64 0]) (t := 30) ?hr ?_; (case hd => rfl); (case hg => rfl); (case hr => first | (go_simp; done) | (go_simp; rfl)); intro g_0 hg w5 hbox hb; have n0_ := Y0.mk (Y2 (bU B_0.out) hb); have n1_ := Y0.mk (Y4 (hU HB.out) hb); have n2_ := Y0.mk (hbox); have n3_ := gE hg HB; have n4_ := gE hg HB; have n5_ := gL hg B_0; have n6_ := gG hg B_0; clear B_0; clear HB; have B_0 := n0_; have HB := n1_; have B_1 := n2_; have W_0 := n3_; have G_1 := n4_; have N_4 := n5_; have N_5 := n6_; clear n0_ n1_ n2_ n3_ n4_ n5_ n6_; clear hb hbox hg) | ((with_reducible refine Yj (N := 8) rfl ?_); refine Yl ?hg (N := 8) ?hd (cs := #[.int .i64 0, .int .i64 0, .int .i64 0, .int .i64 0, .int .i64 0, .bool false, .int .i64 0, .int .i64 0, .int .i64 0, .int .i64 0, .int .i64 0, .int .i64 0, .int .i64 0]) (t := 30) ?hr ?_; (case hd => rfl); (case hg => rfl); (case hr => first | (go_simp; done) | (go_simp; rfl)); intro g_1 hg w6 hbox hb; have n0_ := Y0.mk (Y2 (bU B_0.out) hb); have n1_ := Y0.mk (Y2 (bU B_1.out) hb); have n2_ := Y0.mk (Y4 (hU HB.out) hb); have n3_ := Y0.mk (hbox); have n4_ := gE hg HB; have n5_ := gE hg HB; have n6_ := gL hg B_0; have n7_ := gG hg B_0; have n8_ := gL hg B_1; have n9_ := gG hg B_1; clear B_0; clear B_1; clear HB; have B_0 := n0_; have B_1 := n1_; have HB := n2_; have B_2 := n3_; have W_1 := n4_; have G_0 := n5_; have N_0 := n6_; have N_2 := n7_; have N_1 := n8_; have N_3 := n9_; clear n0_ n1_ n2_ n3_ n4_ n5_ n6_ n7_ n8_ n9_; clear hb hbox hg; have hnb7 := N_2.out; have hnc7 := N_0.out; have hnb8 := N_3.out; have hnc8 := N_1.out; have z_0 := Y1 B_2.out; have f_0 := Y3 B_2.out))
 repeat (go_quiet (first | ((with_reducible refine Yj (N := 5) rfl ?_); refine Yl ?hg (N := 5) ?hd (cs := #[.int .i64 a2_0, .int .i64 a2_1]) (t := 26) ?hr ?_; (case hd => rfl); (case hg => rfl); (case hr => first | (go_simp; done) | (go_simp; rfl)); intro g_2 hg w4 hbox hb; have n0_ := Y0.mk (Y4 (hU HB.out) hb); have n1_ := Y0.mk (hbox); have n2_ := gE hg HB; have n3_ := gE hg HB; clear HB; have HB := n0_; have B_0 := n1_; have W_2 := n2_; have G_2 := n3_; clear n0_ n1_ n2_ n3_; clear hb hbox hg) | ((with_reducible refine Yj (N := 6) rfl ?_); refine Yl ?hg (N := 6) ?hd (cs := #[.int .i64 0, .int .i64 0, .int .i64 0, .int .i64 0, .int .i64 0, .bool false, .int .i64 0, .int .i64 0, .int .i64 0, .int .i64 0, .int .i64 0, .int .i64 0, .int .i64 0]) (t := 30) ?hr ?_; (case hd => rfl); (case hg => rfl); (case hr => first | (go_simp; done) | (go_simp; rfl)); intro g_0 hg w5 hbox hb; have n0_ := Y0.mk (Y2 (bU B_0.out) hb); have n1_ := Y0.mk (Y4 (hU HB.out) hb); have n2_ := Y0.mk (hbox); have n3_ := gE hg HB; have n4_ := gE hg HB; have n5_ := gL hg B_0; have n6_ := gG hg B_0; clear B_0; clear HB; have B_0 := n0_; have HB := n1_; have B_1 := n2_; have W_0 := n3_; have G_1 := n4_; have N_4 := n5_; have N_5 := n6_; clear n0_ n1_ n2_ n3_ n4_ n5_ n6_; clear hb hbox hg) | ((with_reducible refine Yj (N := 8) rfl ?_); refine Yl ?hg (N := 8) ?hd (cs := #[.int .i64 0, .int .i64 0, .int .i64 0, .int .i64 0, .int .i64 0, .bool false, .int .i64 0, .int .i64 0, .int .i64 0, .int .i64 0, .int .i64 0, .int .i64 0, .int .i64 0]) (t := 30) ?hr ?_; (case hd => rfl); (case hg => rfl); (case hr => first | (go_simp; done) | (go_simp; rfl)); intro g_1 hg w6 hbox hb; have n0_ := Y0.mk (Y2 (bU B_0.out) hb); have n1_ := Y0.mk (Y2 (bU B_1.out) hb); have n2_ := Y0.mk (Y4 (hU HB.out) hb); have n3_ := Y0.mk (hbox); have n4_ := gE hg HB; have n5_ := gE hg HB; have n6_ := gL hg B_0; have n7_ := gG hg B_0; have n8_ := gL hg B_1; have n9_ := gG hg B_1; clear B_0; clear B_1; clear HB; have B_0 := n0_; have B_1 := n1_; have HB := n2_; have B_2 := n3_; have W_1 := n4_; have G_0 := n5_; have N_0 := n6_; have N_2 := n7_; have N_1 := n8_; have N_3 := n9_; clear n0_ n1_ n2_ n3_ n4_ n5_ n6_ n7_ n8_ n9_; clear hb hbox hg; have hnb7 := N_2.out; have hnc7 := N_0.out; have hnb8 := N_3.out; have hnc8 := N_1.out; have z_0 := Y1 B_2.out; have f_0 := Y3 B_2.out)); try go_wp2_with (first | ((with_reducible refine Yj (N := 5) rfl ?_); refine Yl ?hg (N := 5) ?hd (cs := #[.int .i64 a2_0, .int .i64 a2_1]) (t := 26) ?hr ?_; (case hd => rfl); (case hg => rfl); (case hr => first | (go_simp; done) | (go_simp; rfl)); intro g_2 hg w4 hbox hb; have n0_ := Y0.mk (Y4 (hU HB.out) hb); have n1_ := Y0.mk (hbox); have n2_ := gE hg HB; have n3_ := gE hg HB; clear HB; have HB := n0_; have B_0 := n1_; have W_2 := n2_; have G_2 := n3_; clear n0_ n1_ n2_ n3_; clear hb hbox hg) | ((with_reducible refine Yj (N := 6) rfl ?_); refine Yl ?hg (N := 6) ?hd (cs := #[.int .i64 0, .int .i64 0, .int .i64 0, .int .i64 0, .int .i64 0, .bool false, .int .i64 0, .int .i64 0, .int .i64 0, .int .i64 0, .int .i64 0, .int .i64 0, .int .i64 0]) (t := 30) ?hr ?_; (case hd => rfl); (case hg => rfl); (case hr => first | (go_simp; done) | (go_simp; rfl)); intro g_0 hg w5 hbox hb; have n0_ := Y0.mk (Y2 (bU B_0.out) hb); have n1_ := Y0.mk (Y4 (hU HB.out) hb); have n2_ := Y0.mk (hbox); have n3_ := gE hg HB; have n4_ := gE hg HB; have n5_ := gL hg B_0; have n6_ := gG hg B_0; clear B_0; clear HB; have B_0 := n0_; have HB := n1_; have B_1 := n2_; have W_0 := n3_; have G_1 := n4_; have N_4 := n5_; have N_5 := n6_; clear n0_ n1_ n2_ n3_ n4_ n5_ n6_; clear hb hbox hg) | ((with_reducible refine Yj (N := 8) rfl ?_); refine Yl ?hg (N := 8) ?hd (cs := #[.int .i64 0, .int .i64 0, .int .i64 0, .int .i64 0, .int .i64 0, .bool false, .int .i64 0, .int .i64 0, .int .i64 0, .int .i64 0, .int .i64 0, .int .i64 0, .int .i64 0]) (t := 30) ?hr ?_; (case hd => rfl); (case hg => rfl); (case hr => first | (go_simp; done) | (go_simp; rfl)); intro g_1 hg w6 hbox hb; have n0_ := Y0.mk (Y2 (bU B_0.out) hb); have n1_ := Y0.mk (Y2 (bU B_1.out) hb); have n2_ := Y0.mk (Y4 (hU HB.out) hb); have n3_ := Y0.mk (hbox); have n4_ := gE hg HB; have n5_ := gE hg HB; have n6_ := gL hg B_0; have n7_ := gG hg B_0; have n8_ := gL hg B_1; have n9_ := gG hg B_1; clear B_0; clear B_1; clear HB; have B_0 := n0_; have B_1 := n1_; have HB := n2_; have B_2 := n3_; have W_1 := n4_; have G_0 := n5_; have N_0 := n6_; have N_2 := n7_; have N_1 := n8_; have N_3 := n9_; clear n0_ n1_ n2_ n3_ n4_ n5_ n6_ n7_ n8_ n9_; clear hb hbox hg; have hnb7 := N_2.out; have hnc7 := N_0.out; have hnb8 := N_3.out; have hnc8 := N_1.out; have z_0 := Y1 B_2.out; have f_0 := Y3 B_2.out)))
 go_loopg [9, 10] k (fun kq v9 v10 w' => ∃ (x9_1 : Bool) (x10_1 : Int) (x611000_1 : Int) (x611001_1 : Int) (x611002_1 : Int) (x611003_1 : Int) (x611004_1 : Int) (x611005_1 : Bool) (x611006_1 : Int) (x611007_1 : Int) (x611008_1 : Int) (x611009_1 : Int) (x611010_1 : Int) (x611011_1 : Int) (x611012_1 : Int), v9 = .bool x9_1 ∧ v10 = .int .i64 x10_1 ∧ Y0 (Yr.l0 kq l0 a1 x9_1 x10_1 a2_0 a2_1 x611000_1 x611001_1 x611002_1 x611003_1 x611004_1 x611005_1 x611006_1 x611007_1 x611008_1 x611009_1 x611010_1 x611011_1 x611012_1 = some (r1, r2, r3, r4, r5, r6, r7, r8, r9, r10, r11, r12, r13, r14)) ∧ Y0 (kq ≤ k) ∧ Y0 (w'.heap[g_2]? = some (.cells #[.int .i64 a2_0, .int .i64 a2_1] 26 (0, 0))) ∧ Y0 (w'.heap[g_0]? = some (.cells #[.int .i64 0, .int .i64 0, .int .i64 0, .int .i64 0, .int .i64 0, .bool false, .int .i64 0, .int .i64 0, .int .i64 0, .int .i64 0, .int .i64 0, .int .i64 0, .int .i64 0] 30 (0, 0))) ∧ Y0 (w'.heap[g_1]? = some (.cells #[.int .i64 x611000_1, .int .i64 x611001_1, .int .i64 x611002_1, .int .i64 x611003_1, .int .i64 x611004_1, .bool x611005_1, .int .i64 x611006_1, .int .i64 x611007_1, .int .i64 x611008_1, .int .i64 x611009_1, .int .i64 x611010_1, .int .i64 x611011_1, .int .i64 x611012_1] 30 (0, 0))) ∧ Y0 (Below w.heap.size w w'))
 case atStart => exact ⟨(false), (0), (0), (0), (0), (0), (0), (false), (0), (0), (0), (0), (0), (0), (0), reS, reS, H', ⟨Nat.le_refl _⟩, ⟨by (with_reducible repeat (first | refine Y6 ?_ _ | refine Y8 ?_ | refine Y5 ?_ _)); refine (Below.heap_setCell _ ⟨_, _, none⟩ _ _ N_0.out).trans ?_; (with_reducible repeat (first | refine Y6 ?_ _ | refine Y8 ?_ | refine Y5 ?_ _)); refine (Below.heap_setCell _ ⟨_, _, none⟩ _ _ N_0.out).trans ?_; (with_reducible repeat (first | refine Y6 ?_ _ | refine Y8 ?_ | refine Y5 ?_ _)); refine (Below.heap_setCell _ ⟨_, _, none⟩ _ _ N_0.out).trans ?_; (with_reducible repeat (first | refine Y6 ?_ _ | refine Y8 ?_ | refine Y5 ?_ _)); refine (Below.heap_setCell _ ⟨_, _, none⟩ _ _ N_0.out).trans ?_; (with_reducible repeat (first | refine Y6 ?_ _ | refine Y8 ?_ | refine Y5 ?_ _)); refine (Below.heap_setCell _ ⟨_, _, none⟩ _ _ N_0.out).trans ?_; (with_reducible repeat (first | refine Y6 ?_ _ | refine Y8 ?_ | refine Y5 ?_ _)); refine (Below.heap_setCell _ ⟨_, _, none⟩ _ _ N_0.out).trans ?_; (with_reducible repeat (first | refine Y6 ?_ _ | refine Y8 ?_ | refine Y5 ?_ _)); refine (Below.heap_setCell _ ⟨_, _, none⟩ _ _ N_0.out).trans ?_; (with_reducible repeat (first | refine Y6 ?_ _ | refine Y8 ?_ | refine Y5 ?_ _)); refine (Below.heap_setCell _ ⟨_, _, none⟩ _ _ N_0.out).trans ?_; (with_reducible repeat (first | refine Y6 ?_ _ | refine Y8 ?_ | refine Y5 ?_ _)); refine (Below.heap_setCell _ ⟨_, _, none⟩ _ _ N_0.out).trans ?_; (with_reducible repeat (first | refine Y6 ?_ _ | refine Y8 ?_ | refine Y5 ?_ _)); refine (Below.heap_setCell _ ⟨_, _, none⟩ _ _ N_0.out).trans ?_; (with_reducible repeat (first | refine Y6 ?_ _ | refine Y8 ?_ | refine Y5 ?_ _)); refine (Below.heap_setCell _ ⟨_, _, none⟩ _ _ N_0.out).trans ?_; (with_reducible repeat (first | refine Y6 ?_ _ | refine Y8 ?_ | refine Y5 ?_ _)); refine (Below.heap_setCell _ ⟨_, _, none⟩ _ _ N_0.out).trans ?_; (with_reducible repeat (first | refine Y6 ?_ _ | refine Y8 ?_ | refine Y5 ?_ _)); refine (Below.heap_setCell _ ⟨_, _, none⟩ _ _ N_0.out).trans ?_; (with_reducible repeat (first | refine Y6 ?_ _ | refine Y8 ?_ | refine Y5 ?_ _)); exact B_0.out⟩, ⟨by (with_reducible repeat (first | refine Y6 ?_ _ | refine Y8 ?_ | refine Y5 ?_ _)); refine (Below.heap_setCell _ ⟨_, _, none⟩ _ _ N_1.out).trans ?_; (with_reducible repeat (first | refine Y6 ?_ _ | refine Y8 ?_ | refine Y5 ?_ _)); refine (Below.heap_setCell _ ⟨_, _, none⟩ _ _ N_1.out).trans ?_; (with_reducible repeat (first | refine Y6 ?_ _ | refine Y8 ?_ | refine Y5 ?_ _)); refine (Below.heap_setCell _ ⟨_, _, none⟩ _ _ N_1.out).trans ?_; (with_reducible repeat (first | refine Y6 ?_ _ | refine Y8 ?_ | refine Y5 ?_ _)); refine (Below.heap_setCell _ ⟨_, _, none⟩ _ _ N_1.out).trans ?_; (with_reducible repeat (first | refine Y6 ?_ _ | refine Y8 ?_ | refine Y5 ?_ _)); refine (Below.heap_setCell _ ⟨_, _, none⟩ _ _ N_1.out).trans ?_; (with_reducible repeat (first | refine Y6 ?_ _ | refine Y8 ?_ | refine Y5 ?_ _)); refine (Below.heap_setCell _ ⟨_, _, none⟩ _ _ N_1.out).trans ?_; (with_reducible repeat (first | refine Y6 ?_ _ | refine Y8 ?_ | refine Y5 ?_ _)); refine (Below.heap_setCell _ ⟨_, _, none⟩ _ _ N_1.out).trans ?_; (with_reducible repeat (first | refine Y6 ?_ _ | refine Y8 ?_ | refine Y5 ?_ _)); refine (Below.heap_setCell _ ⟨_, _, none⟩ _ _ N_1.out).trans ?_; (with_reducible repeat (first | refine Y6 ?_ _ | refine Y8 ?_ | refine Y5 ?_ _)); refine (Below.heap_setCell _ ⟨_, _, none⟩ _ _ N_1.out).trans ?_; (with_reducible repeat (first | refine Y6 ?_ _ | refine Y8 ?_ | refine Y5 ?_ _)); refine (Below.heap_setCell _ ⟨_, _, none⟩ _ _ N_1.out).trans ?_; (with_reducible repeat (first | refine Y6 ?_ _ | refine Y8 ?_ | refine Y5 ?_ _)); refine (Below.heap_setCell _ ⟨_, _, none⟩ _ _ N_1.out).trans ?_; (with_reducible repeat (first | refine Y6 ?_ _ | refine Y8 ?_ | refine Y5 ?_ _)); refine (Below.heap_setCell _ ⟨_, _, none⟩ _ _ N_1.out).trans ?_; (with_reducible repeat (first | refine Y6 ?_ _ | refine Y8 ?_ | refine Y5 ?_ _)); refine (Below.heap_setCell _ ⟨_, _, none⟩ _ _ N_1.out).trans ?_; (with_reducible repeat (first | refine Y6 ?_ _ | refine Y8 ?_ | refine Y5 ?_ _)); exact B_1.out⟩, ⟨by (with_reducible repeat (first | refine Y6 ?_ _ | refine Y8 ?_ | refine Y5 ?_ _)); refine Yt (cs := #[.int .i64 0, .int .i64 0, .int .i64 0, .int .i64 0, .int .i64 0, .bool false, .int .i64 0, .int .i64 0, .int .i64 0, .int .i64 0, .int .i64 0, .int .i64 0, .int .i64 0]) ?_ 12 _ rfl; (with_reducible repeat (first | refine Y6 ?_ _ | refine Y8 ?_ | refine Y5 ?_ _)); refine Yt (cs := #[.int .i64 0, .int .i64 0, .int .i64 0, .int .i64 0, .int .i64 0, .bool false, .int .i64 0, .int .i64 0, .int .i64 0, .int .i64 0, .int .i64 0, .int .i64 0, .int .i64 0]) ?_ 11 _ rfl; (with_reducible repeat (first | refine Y6 ?_ _ | refine Y8 ?_ | refine Y5 ?_ _)); refine Yt (cs := #[.int .i64 0, .int .i64 0, .int .i64 0, .int .i64 0, .int .i64 0, .bool false, .int .i64 0, .int .i64 0, .int .i64 0, .int .i64 0, .int .i64 0, .int .i64 0, .int .i64 0]) ?_ 10 _ rfl; (with_reducible repeat (first | refine Y6 ?_ _ | refine Y8 ?_ | refine Y5 ?_ _)); refine Yt (cs := #[.int .i64 0, .int .i64 0, .int .i64 0, .int .i64 0, .int .i64 0, .bool false, .int .i64 0, .int .i64 0, .int .i64 0, .int .i64 0, .int .i64 0, .int .i64 0, .int .i64 0]) ?_ 9 _ rfl; (with_reducible repeat (first | refine Y6 ?_ _ | refine Y8 ?_ | refine Y5 ?_ _)); refine Yt (cs := #[.int .i64 0, .int .i64 0, .int .i64 0, .int .i64 0, .int .i64 0, .bool false, .int .i64 0, .int .i64 0, .int .i64 0, .int .i64 0, .int .i64 0, .int .i64 0, .int .i64 0]) ?_ 8 _ rfl; (with_reducible repeat (first | refine Y6 ?_ _ | refine Y8 ?_ | refine Y5 ?_ _)); refine Yt (cs := #[.int .i64 0, .int .i64 0, .int .i64 0, .int .i64 0, .int .i64 0, .bool false, .int .i64 0, .int .i64 0, .int .i64 0, .int .i64 0, .int .i64 0, .int .i64 0, .int .i64 0]) ?_ 7 _ rfl; (with_reducible repeat (first | refine Y6 ?_ _ | refine Y8 ?_ | refine Y5 ?_ _)); refine Yt (cs := #[.int .i64 0, .int .i64 0, .int .i64 0, .int .i64 0, .int .i64 0, .bool false, .int .i64 0, .int .i64 0, .int .i64 0, .int .i64 0, .int .i64 0, .int .i64 0, .int .i64 0]) ?_ 6 _ rfl; (with_reducible repeat (first | refine Y6 ?_ _ | refine Y8 ?_ | refine Y5 ?_ _)); refine Yt (cs := #[.int .i64 0, .int .i64 0, .int .i64 0, .int .i64 0, .int .i64 0, .bool false, .int .i64 0, .int .i64 0, .int .i64 0, .int .i64 0, .int .i64 0, .int .i64 0, .int .i64 0]) ?_ 5 _ rfl; (with_reducible repeat (first | refine Y6 ?_ _ | refine Y8 ?_ | refine Y5 ?_ _)); refine Yt (cs := #[.int .i64 0, .int .i64 0, .int .i64 0, .int .i64 0, .int .i64 0, .bool false, .int .i64 0, .int .i64 0, .int .i64 0, .int .i64 0, .int .i64 0, .int .i64 0, .int .i64 0]) ?_ 4 _ rfl; (with_reducible repeat (first | refine Y6 ?_ _ | refine Y8 ?_ | refine Y5 ?_ _)); refine Yt (cs := #[.int .i64 0, .int .i64 0, .int .i64 0, .int .i64 0, .int .i64 0, .bool false, .int .i64 0, .int .i64 0, .int .i64 0, .int .i64 0, .int .i64 0, .int .i64 0, .int .i64 0]) ?_ 3 _ rfl; (with_reducible repeat (first | refine Y6 ?_ _ | refine Y8 ?_ | refine Y5 ?_ _)); refine Yt (cs := #[.int .i64 0, .int .i64 0, .int .i64 0, .int .i64 0, .int .i64 0, .bool false, .int .i64 0, .int .i64 0, .int .i64 0, .int .i64 0, .int .i64 0, .int .i64 0, .int .i64 0]) ?_ 2 _ rfl; (with_reducible repeat (first | refine Y6 ?_ _ | refine Y8 ?_ | refine Y5 ?_ _)); refine Yt (cs := #[.int .i64 0, .int .i64 0, .int .i64 0, .int .i64 0, .int .i64 0, .bool false, .int .i64 0, .int .i64 0, .int .i64 0, .int .i64 0, .int .i64 0, .int .i64 0, .int .i64 0]) ?_ 1 _ rfl; (with_reducible repeat (first | refine Y6 ?_ _ | refine Y8 ?_ | refine Y5 ?_ _)); refine Yt (cs := #[.int .i64 0, .int .i64 0, .int .i64 0, .int .i64 0, .int .i64 0, .bool false, .int .i64 0, .int .i64 0, .int .i64 0, .int .i64 0, .int .i64 0, .int .i64 0, .int .i64 0]) ?_ 0 _ rfl; (with_reducible repeat (first | refine Y6 ?_ _ | refine Y8 ?_ | refine Y5 ?_ _)); exact B_2.out⟩, ⟨hU HB.out⟩⟩
 case round =>
  clear H'
  try clear p2
  try clear c7
  try clear c8
  try clear z_0
  try clear z_d
  try clear z_6
  try clear z_a
  try clear z_4
  try clear z_b
  try clear z_8
  try clear z_1
  try clear z_f
  try clear z_h
  try clear z_e
  try clear z_9
  try clear z_g
  try clear f_0
  try clear f_h
  try clear f_e
  try clear f_f
  try clear f_d
  try clear f_g
  try clear f_4
  try clear f_a
  try clear f_5
  try clear f_2
  try clear f_1
  try clear f_6
  try clear f_3
  obtain ⟨x9_1, x10_1, x611000_1, x611001_1, x611002_1, x611003_1, x611004_1, x611005_1, x611006_1, x611007_1, x611008_1, x611009_1, x611010_1, x611011_1, x611012_1, rfl, rfl, HA, HK1, B_0, B_1, B_2, HB⟩ := hrel
  cases gk with
  | zero => exact absurd HA.out (by simp [Yr.l0])
  | succ k1 =>
   have H := HA.out
   clear HA
   simp only [Yr.l0] at H
   by_cases c10 : x10_1 < (l0.length : Int)
   ·rw [if_pos c10] at H
    have c10b0 := decide_eq_true c10
    clear c10
    obtain ⟨c11, H⟩ := iS H
    have c11b0 := decide_eq_true c11
    clear c11
    by_cases c12 : ((Y7 l0 x10_1).f1) = a1
    ·rw [if_pos c12] at H
     have c12b0 := bqT c12
     have c12b1 := bnF c12
     clear c12
     by_cases c13 : (((Y7 l0 x10_1).f2.f0) == a2_0 && (((Y7 l0 x10_1).f2.f1) == a2_1)) = true
     ·rw [if_pos c13] at H
      have c13b0 : (((Y7 l0 x10_1).f2.f0) == a2_0 && (((Y7 l0 x10_1).f2.f1) == a2_1)) = true := c13
      (try (have c13b1 : decide (((Y7 l0 x10_1).f2.f0) = a2_0 && (((Y7 l0 x10_1).f2.f1) == a2_1)) = true := by simpa using c13))
      (try (have c13b2 : (((Y7 l0 x10_1).f2.f0) == a2_0 && (((Y7 l0 x10_1).f2.f1) == a2_1)) = true := by simpa using c13))
      clear c13
      have H' := Y0.mk H
      clear H
      have p611 : 0 ≤ (x10_1 : Int) := of_decide_eq_true (by first | (with_reducible assumption) | assumption)
      have q611 : x10_1 < (l0.length : Int) := of_decide_eq_true (by first | (with_reducible assumption) | assumption)
      obtain ⟨d_0, e611, m_c, m_6, m_5, m_7, m_0, m_8, m_a, m_3, m_9, m_4, m_1, m_2, m_b⟩ := Y1m HR0.out x10_1 p611 q611
      cases e611
      replace m_c := hbC HB m_c
      replace m_6 := hbC HB m_6
      replace m_5 := hbC HB m_5
      replace m_7 := hbC HB m_7
      replace m_0 := hbC HB m_0
      replace m_8 := hbC HB m_8
      replace m_a := hbC HB m_a
      replace m_3 := hbC HB m_3
      replace m_9 := hbC HB m_9
      replace m_4 := hbC HB m_4
      replace m_1 := hbC HB m_1
      replace m_2 := hbC HB m_2
      replace m_b := hbC HB m_b
      replace p611 := eq_true p611
      replace q611 := eq_true q611
      have p612 : 0 ≤ (x10_1 : Int) := of_decide_eq_true (by first | (with_reducible assumption) | assumption)
      have q612 : x10_1 < (l0.length : Int) := of_decide_eq_true (by first | (with_reducible assumption) | assumption)
      obtain ⟨d_1, e612, m_m, m_g, m_n, m_k, m_p, m_j, m_i, m_d, m_h, m_f, m_e, m_l, m_o⟩ := Y1m HR0.out x10_1 p612 q612
      obtain rfl : d_0 = d_1 := (by injection e612)
      replace m_m := hbC HB m_m
      replace m_g := hbC HB m_g
      replace m_n := hbC HB m_n
      replace m_k := hbC HB m_k
      replace m_p := hbC HB m_p
      replace m_j := hbC HB m_j
      replace m_i := hbC HB m_i
      replace m_d := hbC HB m_d
      replace m_h := hbC HB m_h
      replace m_f := hbC HB m_f
      replace m_e := hbC HB m_e
      replace m_l := hbC HB m_l
      replace m_o := hbC HB m_o
      replace p612 := eq_true p612
      replace q612 := eq_true q612
      have hnb14 := N_4.out
      have hnc14 := N_5.out
      have hnb15 := N_0.out
      have hnc15 := N_2.out
      have z_c := Y1 B_0.out
      have f_b := Y3 B_0.out
      have p613 : 0 ≤ (x10_1 : Int) := of_decide_eq_true (by first | (with_reducible assumption) | assumption)
      have q613 : x10_1 < (l0.length : Int) := of_decide_eq_true (by first | (with_reducible assumption) | assumption)
      obtain ⟨d_2, e613, m_t, m_z, m_s, m_q, m_u, m_11, m_y, m_r, m_12, m_w, m_v, m_10, m_x⟩ := Y1m HR0.out x10_1 p613 q613
      obtain rfl : d_0 = d_2 := (by injection e613)
      replace m_t := hbC HB m_t
      replace m_z := hbC HB m_z
      replace m_s := hbC HB m_s
      replace m_q := hbC HB m_q
      replace m_u := hbC HB m_u
      replace m_11 := hbC HB m_11
      replace m_y := hbC HB m_y
      replace m_r := hbC HB m_r
      replace m_12 := hbC HB m_12
      replace m_w := hbC HB m_w
      replace m_v := hbC HB m_v
      replace m_10 := hbC HB m_10
      replace m_x := hbC HB m_x
      replace p613 := eq_true p613
      replace q613 := eq_true q613
      have hnb17 := N_3.out
      have hnc17 := N_1.out
      have z_3 := Y1 B_2.out
      have f_7 := Y3 B_2.out
      go_wp2
      repeat (go_quiet (fail); try go_wp2)
      go_roundg k1
      case measure => have := HK1.out; omega
      case rel => exact ⟨(true), (wrap64 (x10_1 + 1)), ((Y7 l0 x10_1).f0.f0), ((Y7 l0 x10_1).f0.f1), ((Y7 l0 x10_1).f1), ((Y7 l0 x10_1).f2.f0), ((Y7 l0 x10_1).f2.f1), ((Y7 l0 x10_1).f3), ((Y7 l0 x10_1).f4.f0), ((Y7 l0 x10_1).f4.f1), ((Y7 l0 x10_1).f4.f2), ((Y7 l0 x10_1).f4.f3), ((Y7 l0 x10_1).f4.f4), ((Y7 l0 x10_1).f4.f5), ((Y7 l0 x10_1).f4.f6), reS, reS, H', ⟨by have := HK1.out; omega⟩, ⟨by (with_reducible repeat (first | refine Y6 ?_ _ | refine Y8 ?_ | refine Y5 ?_ _)); refine (Below.heap_setCell _ ⟨_, _, none⟩ _ _ N_0.out).trans ?_; (with_reducible repeat (first | refine Y6 ?_ _ | refine Y8 ?_ | refine Y5 ?_ _)); refine (Below.heap_setCell _ ⟨_, _, none⟩ _ _ N_0.out).trans ?_; (with_reducible repeat (first | refine Y6 ?_ _ | refine Y8 ?_ | refine Y5 ?_ _)); refine (Below.heap_setCell _ ⟨_, _, none⟩ _ _ N_0.out).trans ?_; (with_reducible repeat (first | refine Y6 ?_ _ | refine Y8 ?_ | refine Y5 ?_ _)); refine (Below.heap_setCell _ ⟨_, _, none⟩ _ _ N_0.out).trans ?_; (with_reducible repeat (first | refine Y6 ?_ _ | refine Y8 ?_ | refine Y5 ?_ _)); refine (Below.heap_setCell _ ⟨_, _, none⟩ _ _ N_0.out).trans ?_; (with_reducible repeat (first | refine Y6 ?_ _ | refine Y8 ?_ | refine Y5 ?_ _)); refine (Below.heap_setCell _ ⟨_, _, none⟩ _ _ N_0.out).trans ?_; (with_reducible repeat (first | refine Y6 ?_ _ | refine Y8 ?_ | refine Y5 ?_ _)); refine (Below.heap_setCell _ ⟨_, _, none⟩ _ _ N_0.out).trans ?_; (with_reducible repeat (first | refine Y6 ?_ _ | refine Y8 ?_ | refine Y5 ?_ _)); refine (Below.heap_setCell _ ⟨_, _, none⟩ _ _ N_0.out).trans ?_; (with_reducible repeat (first | refine Y6 ?_ _ | refine Y8 ?_ | refine Y5 ?_ _)); refine (Below.heap_setCell _ ⟨_, _, none⟩ _ _ N_0.out).trans ?_; (with_reducible repeat (first | refine Y6 ?_ _ | refine Y8 ?_ | refine Y5 ?_ _)); refine (Below.heap_setCell _ ⟨_, _, none⟩ _ _ N_0.out).trans ?_; (with_reducible repeat (first | refine Y6 ?_ _ | refine Y8 ?_ | refine Y5 ?_ _)); refine (Below.heap_setCell _ ⟨_, _, none⟩ _ _ N_0.out).trans ?_; (with_reducible repeat (first | refine Y6 ?_ _ | refine Y8 ?_ | refine Y5 ?_ _)); refine (Below.heap_setCell _ ⟨_, _, none⟩ _ _ N_0.out).trans ?_; (with_reducible repeat (first | refine Y6 ?_ _ | refine Y8 ?_ | refine Y5 ?_ _)); refine (Below.heap_setCell _ ⟨_, _, none⟩ _ _ N_0.out).trans ?_; (with_reducible repeat (first | refine Y6 ?_ _ | refine Y8 ?_ | refine Y5 ?_ _)); exact B_0.out⟩, ⟨by (with_reducible repeat (first | refine Y6 ?_ _ | refine Y8 ?_ | refine Y5 ?_ _)); refine (Below.heap_setCell _ ⟨_, _, none⟩ _ _ N_1.out).trans ?_; (with_reducible repeat (first | refine Y6 ?_ _ | refine Y8 ?_ | refine Y5 ?_ _)); refine (Below.heap_setCell _ ⟨_, _, none⟩ _ _ N_1.out).trans ?_; (with_reducible repeat (first | refine Y6 ?_ _ | refine Y8 ?_ | refine Y5 ?_ _)); refine (Below.heap_setCell _ ⟨_, _, none⟩ _ _ N_1.out).trans ?_; (with_reducible repeat (first | refine Y6 ?_ _ | refine Y8 ?_ | refine Y5 ?_ _)); refine (Below.heap_setCell _ ⟨_, _, none⟩ _ _ N_1.out).trans ?_; (with_reducible repeat (first | refine Y6 ?_ _ | refine Y8 ?_ | refine Y5 ?_ _)); refine (Below.heap_setCell _ ⟨_, _, none⟩ _ _ N_1.out).trans ?_; (with_reducible repeat (first | refine Y6 ?_ _ | refine Y8 ?_ | refine Y5 ?_ _)); refine (Below.heap_setCell _ ⟨_, _, none⟩ _ _ N_1.out).trans ?_; (with_reducible repeat (first | refine Y6 ?_ _ | refine Y8 ?_ | refine Y5 ?_ _)); refine (Below.heap_setCell _ ⟨_, _, none⟩ _ _ N_1.out).trans ?_; (with_reducible repeat (first | refine Y6 ?_ _ | refine Y8 ?_ | refine Y5 ?_ _)); refine (Below.heap_setCell _ ⟨_, _, none⟩ _ _ N_1.out).trans ?_; (with_reducible repeat (first | refine Y6 ?_ _ | refine Y8 ?_ | refine Y5 ?_ _)); refine (Below.heap_setCell _ ⟨_, _, none⟩ _ _ N_1.out).trans ?_; (with_reducible repeat (first | refine Y6 ?_ _ | refine Y8 ?_ | refine Y5 ?_ _)); refine (Below.heap_setCell _ ⟨_, _, none⟩ _ _ N_1.out).trans ?_; (with_reducible repeat (first | refine Y6 ?_ _ | refine Y8 ?_ | refine Y5 ?_ _)); refine (Below.heap_setCell _ ⟨_, _, none⟩ _ _ N_1.out).trans ?_; (with_reducible repeat (first | refine Y6 ?_ _ | refine Y8 ?_ | refine Y5 ?_ _)); refine (Below.heap_setCell _ ⟨_, _, none⟩ _ _ N_1.out).trans ?_; (with_reducible repeat (first | refine Y6 ?_ _ | refine Y8 ?_ | refine Y5 ?_ _)); refine (Below.heap_setCell _ ⟨_, _, none⟩ _ _ N_1.out).trans ?_; (with_reducible repeat (first | refine Y6 ?_ _ | refine Y8 ?_ | refine Y5 ?_ _)); exact B_1.out⟩, ⟨by (with_reducible repeat (first | refine Y6 ?_ _ | refine Y8 ?_ | refine Y5 ?_ _)); refine Yt (cs := #[.int .i64 ((Y7 l0 x10_1).f0.f0), .int .i64 ((Y7 l0 x10_1).f0.f1), .int .i64 ((Y7 l0 x10_1).f1), .int .i64 ((Y7 l0 x10_1).f2.f0), .int .i64 ((Y7 l0 x10_1).f2.f1), .bool ((Y7 l0 x10_1).f3), .int .i64 ((Y7 l0 x10_1).f4.f0), .int .i64 ((Y7 l0 x10_1).f4.f1), .int .i64 ((Y7 l0 x10_1).f4.f2), .int .i64 ((Y7 l0 x10_1).f4.f3), .int .i64 ((Y7 l0 x10_1).f4.f4), .int .i64 ((Y7 l0 x10_1).f4.f5), .int .i64 x611012_1]) ?_ 12 _ rfl; (with_reducible repeat (first | refine Y6 ?_ _ | refine Y8 ?_ | refine Y5 ?_ _)); refine Yt (cs := #[.int .i64 ((Y7 l0 x10_1).f0.f0), .int .i64 ((Y7 l0 x10_1).f0.f1), .int .i64 ((Y7 l0 x10_1).f1), .int .i64 ((Y7 l0 x10_1).f2.f0), .int .i64 ((Y7 l0 x10_1).f2.f1), .bool ((Y7 l0 x10_1).f3), .int .i64 ((Y7 l0 x10_1).f4.f0), .int .i64 ((Y7 l0 x10_1).f4.f1), .int .i64 ((Y7 l0 x10_1).f4.f2), .int .i64 ((Y7 l0 x10_1).f4.f3), .int .i64 ((Y7 l0 x10_1).f4.f4), .int .i64 x611011_1, .int .i64 x611012_1]) ?_ 11 _ rfl; (with_reducible repeat (first | refine Y6 ?_ _ | refine Y8 ?_ | refine Y5 ?_ _)); refine Yt (cs := #[.int .i64 ((Y7 l0 x10_1).f0.f0), .int .i64 ((Y7 l0 x10_1).f0.f1), .int .i64 ((Y7 l0 x10_1).f1), .int .i64 ((Y7 l0 x10_1).f2.f0), .int .i64 ((Y7 l0 x10_1).f2.f1), .bool ((Y7 l0 x10_1).f3), .int .i64 ((Y7 l0 x10_1).f4.f0), .int .i64 ((Y7 l0 x10_1).f4.f1), .int .i64 ((Y7 l0 x10_1).f4.f2), .int .i64 ((Y7 l0 x10_1).f4.f3), .int .i64 x611010_1, .int .i64 x611011_1, .int .i64 x611012_1]) ?_ 10 _ rfl; (with_reducible repeat (first | refine Y6 ?_ _ | refine Y8 ?_ | refine Y5 ?_ _)); refine Yt (cs := #[.int .i64 ((Y7 l0 x10_1).f0.f0), .int .i64 ((Y7 l0 x10_1).f0.f1), .int .i64 ((Y7 l0 x10_1).f1), .int .i64 ((Y7 l0 x10_1).f2.f0), .int .i64 ((Y7 l0 x10_1).f2.f1), .bool ((Y7 l0 x10_1).f3), .int .i64 ((Y7 l0 x10_1).f4.f0), .int .i64 ((Y7 l0 x10_1).f4.f1), .int .i64 ((Y7 l0 x10_1).f4.f2), .int .i64 x611009_1, .int .i64 x611010_1, .int .i64 x611011_1, .int .i64 x611012_1]) ?_ 9 _ rfl; (with_reducible repeat (first | refine Y6 ?_ _ | refine Y8 ?_ | refine Y5 ?_ _)); refine Yt (cs := #[.int .i64 ((Y7 l0 x10_1).f0.f0), .int .i64 ((Y7 l0 x10_1).f0.f1), .int .i64 ((Y7 l0 x10_1).f1), .int .i64 ((Y7 l0 x10_1).f2.f0), .int .i64 ((Y7 l0 x10_1).f2.f1), .bool ((Y7 l0 x10_1).f3), .int .i64 ((Y7 l0 x10_1).f4.f0), .int .i64 ((Y7 l0 x10_1).f4.f1), .int .i64 x611008_1, .int .i64 x611009_1, .int .i64 x611010_1, .int .i64 x611011_1, .int .i64 x611012_1]) ?_ 8 _ rfl; (with_reducible repeat (first | refine Y6 ?_ _ | refine Y8 ?_ | refine Y5 ?_ _)); refine Yt (cs := #[.int .i64 ((Y7 l0 x10_1).f0.f0), .int .i64 ((Y7 l0 x10_1).f0.f1), .int .i64 ((Y7 l0 x10_1).f1), .int .i64 ((Y7 l0 x10_1).f2.f0), .int .i64 ((Y7 l0 x10_1).f2.f1), .bool ((Y7 l0 x10_1).f3), .int .i64 ((Y7 l0 x10_1).f4.f0), .int .i64 x611007_1, .int .i64 x611008_1, .int .i64 x611009_1, .int .i64 x611010_1, .int .i64 x611011_1, .int .i64 x611012_1]) ?_ 7 _ rfl; (with_reducible repeat (first | refine Y6 ?_ _ | refine Y8 ?_ | refine Y5 ?_ _)); refine Yt (cs := #[.int .i64 ((Y7 l0 x10_1).f0.f0), .int .i64 ((Y7 l0 x10_1).f0.f1), .int .i64 ((Y7 l0 x10_1).f1), .int .i64 ((Y7 l0 x10_1).f2.f0), .int .i64 ((Y7 l0 x10_1).f2.f1), .bool ((Y7 l0 x10_1).f3), .int .i64 x611006_1, .int .i64 x611007_1, .int .i64 x611008_1, .int .i64 x611009_1, .int .i64 x611010_1, .int .i64 x611011_1, .int .i64 x611012_1]) ?_ 6 _ rfl; (with_reducible repeat (first | refine Y6 ?_ _ | refine Y8 ?_ | refine Y5 ?_ _)); refine Yt (cs := #[.int .i64 ((Y7 l0 x10_1).f0.f0), .int .i64 ((Y7 l0 x10_1).f0.f1), .int .i64 ((Y7 l0 x10_1).f1), .int .i64 ((Y7 l0 x10_1).f2.f0), .int .i64 ((Y7 l0 x10_1).f2.f1), .bool x611005_1, .int .i64 x611006_1, .int .i64 x611007_1, .int .i64 x611008_1, .int .i64 x611009_1, .int .i64 x611010_1, .int .i64 x611011_1, .int .i64 x611012_1]) ?_ 5 _ rfl; (with_reducible repeat (first | refine Y6 ?_ _ | refine Y8 ?_ | refine Y5 ?_ _)); refine Yt (cs := #[.int .i64 ((Y7 l0 x10_1).f0.f0), .int .i64 ((Y7 l0 x10_1).f0.f1), .int .i64 ((Y7 l0 x10_1).f1), .int .i64 ((Y7 l0 x10_1).f2.f0), .int .i64 x611004_1, .bool x611005_1, .int .i64 x611006_1, .int .i64 x611007_1, .int .i64 x611008_1, .int .i64 x611009_1, .int .i64 x611010_1, .int .i64 x611011_1, .int .i64 x611012_1]) ?_ 4 _ rfl; (with_reducible repeat (first | refine Y6 ?_ _ | refine Y8 ?_ | refine Y5 ?_ _)); refine Yt (cs := #[.int .i64 ((Y7 l0 x10_1).f0.f0), .int .i64 ((Y7 l0 x10_1).f0.f1), .int .i64 ((Y7 l0 x10_1).f1), .int .i64 x611003_1, .int .i64 x611004_1, .bool x611005_1, .int .i64 x611006_1, .int .i64 x611007_1, .int .i64 x611008_1, .int .i64 x611009_1, .int .i64 x611010_1, .int .i64 x611011_1, .int .i64 x611012_1]) ?_ 3 _ rfl; (with_reducible repeat (first | refine Y6 ?_ _ | refine Y8 ?_ | refine Y5 ?_ _)); refine Yt (cs := #[.int .i64 ((Y7 l0 x10_1).f0.f0), .int .i64 ((Y7 l0 x10_1).f0.f1), .int .i64 x611002_1, .int .i64 x611003_1, .int .i64 x611004_1, .bool x611005_1, .int .i64 x611006_1, .int .i64 x611007_1, .int .i64 x611008_1, .int .i64 x611009_1, .int .i64 x611010_1, .int .i64 x611011_1, .int .i64 x611012_1]) ?_ 2 _ rfl; (with_reducible repeat (first | refine Y6 ?_ _ | refine Y8 ?_ | refine Y5 ?_ _)); refine Yt (cs := #[.int .i64 ((Y7 l0 x10_1).f0.f0), .int .i64 x611001_1, .int .i64 x611002_1, .int .i64 x611003_1, .int .i64 x611004_1, .bool x611005_1, .int .i64 x611006_1, .int .i64 x611007_1, .int .i64 x611008_1, .int .i64 x611009_1, .int .i64 x611010_1, .int .i64 x611011_1, .int .i64 x611012_1]) ?_ 1 _ rfl; (with_reducible repeat (first | refine Y6 ?_ _ | refine Y8 ?_ | refine Y5 ?_ _)); refine Yt (cs := #[.int .i64 x611000_1, .int .i64 x611001_1, .int .i64 x611002_1, .int .i64 x611003_1, .int .i64 x611004_1, .bool x611005_1, .int .i64 x611006_1, .int .i64 x611007_1, .int .i64 x611008_1, .int .i64 x611009_1, .int .i64 x611010_1, .int .i64 x611011_1, .int .i64 x611012_1]) ?_ 0 _ rfl; (with_reducible repeat (first | refine Y6 ?_ _ | refine Y8 ?_ | refine Y5 ?_ _)); exact B_2.out⟩, ⟨hU HB.out⟩⟩
     ·rw [if_neg c13] at H
      have c13b0 : (((Y7 l0 x10_1).f2.f0) == a2_0 && (((Y7 l0 x10_1).f2.f1) == a2_1)) = false := by simpa using c13
      (try (have c13b1 : decide (((Y7 l0 x10_1).f2.f0) = a2_0 && (((Y7 l0 x10_1).f2.f1) == a2_1)) = false := by simpa using c13))
      (try (have c13b2 : (((Y7 l0 x10_1).f2.f0) == a2_0 && (((Y7 l0 x10_1).f2.f1) == a2_1)) = false := by simpa using c13))
      (try (have c13b3 : ¬ (((Y7 l0 x10_1).f2.f0) = a2_0 && (((Y7 l0 x10_1).f2.f1) == a2_1)) := by simpa using c13))
      clear c13
      have H' := Y0.mk H
      clear H
      have p611 : 0 ≤ (x10_1 : Int) := of_decide_eq_true (by first | (with_reducible assumption) | assumption)
      have q611 : x10_1 < (l0.length : Int) := of_decide_eq_true (by first | (with_reducible assumption) | assumption)
      obtain ⟨d_0, e611, m_c, m_6, m_5, m_7, m_0, m_8, m_a, m_3, m_9, m_4, m_1, m_2, m_b⟩ := Y1m HR0.out x10_1 p611 q611
      cases e611
      replace m_c := hbC HB m_c
      replace m_6 := hbC HB m_6
      replace m_5 := hbC HB m_5
      replace m_7 := hbC HB m_7
      replace m_0 := hbC HB m_0
      replace m_8 := hbC HB m_8
      replace m_a := hbC HB m_a
      replace m_3 := hbC HB m_3
      replace m_9 := hbC HB m_9
      replace m_4 := hbC HB m_4
      replace m_1 := hbC HB m_1
      replace m_2 := hbC HB m_2
      replace m_b := hbC HB m_b
      replace p611 := eq_true p611
      replace q611 := eq_true q611
      have p612 : 0 ≤ (x10_1 : Int) := of_decide_eq_true (by first | (with_reducible assumption) | assumption)
      have q612 : x10_1 < (l0.length : Int) := of_decide_eq_true (by first | (with_reducible assumption) | assumption)
      obtain ⟨d_1, e612, m_m, m_g, m_n, m_k, m_p, m_j, m_i, m_d, m_h, m_f, m_e, m_l, m_o⟩ := Y1m HR0.out x10_1 p612 q612
      obtain rfl : d_0 = d_1 := (by injection e612)
      replace m_m := hbC HB m_m
      replace m_g := hbC HB m_g
      replace m_n := hbC HB m_n
      replace m_k := hbC HB m_k
      replace m_p := hbC HB m_p
      replace m_j := hbC HB m_j
      replace m_i := hbC HB m_i
      replace m_d := hbC HB m_d
      replace m_h := hbC HB m_h
      replace m_f := hbC HB m_f
      replace m_e := hbC HB m_e
      replace m_l := hbC HB m_l
      replace m_o := hbC HB m_o
      replace p612 := eq_true p612
      replace q612 := eq_true q612
      have hnb19 := N_4.out
      have hnc19 := N_5.out
      have hnb20 := N_0.out
      have hnc20 := N_2.out
      have z_5 := Y1 B_0.out
      have f_9 := Y3 B_0.out
      go_wp2
      repeat (go_quiet (fail); try go_wp2)
      go_roundg k1
      case measure => have := HK1.out; omega
      case rel => exact ⟨(x9_1), (wrap64 (x10_1 + 1)), (x611000_1), (x611001_1), (x611002_1), (x611003_1), (x611004_1), (x611005_1), (x611006_1), (x611007_1), (x611008_1), (x611009_1), (x611010_1), (x611011_1), (x611012_1), reS, reS, H', ⟨by have := HK1.out; omega⟩, ⟨kB B_0⟩, ⟨kB B_1⟩, ⟨kB B_2⟩, ⟨hU HB.out⟩⟩
    ·rw [if_neg c12] at H
     have c12b0 := bqF c12
     have c12b1 := bnT c12
     have H' := Y0.mk H
     clear H
     have p611 : 0 ≤ (x10_1 : Int) := of_decide_eq_true (by first | (with_reducible assumption) | assumption)
     have q611 : x10_1 < (l0.length : Int) := of_decide_eq_true (by first | (with_reducible assumption) | assumption)
     obtain ⟨d_0, e611, m_c, m_6, m_5, m_7, m_0, m_8, m_a, m_3, m_9, m_4, m_1, m_2, m_b⟩ := Y1m HR0.out x10_1 p611 q611
     cases e611
     replace m_c := hbC HB m_c
     replace m_6 := hbC HB m_6
     replace m_5 := hbC HB m_5
     replace m_7 := hbC HB m_7
     replace m_0 := hbC HB m_0
     replace m_8 := hbC HB m_8
     replace m_a := hbC HB m_a
     replace m_3 := hbC HB m_3
     replace m_9 := hbC HB m_9
     replace m_4 := hbC HB m_4
     replace m_1 := hbC HB m_1
     replace m_2 := hbC HB m_2
     replace m_b := hbC HB m_b
     replace p611 := eq_true p611
     replace q611 := eq_true q611
     go_wp2
     repeat (go_quiet (fail); try go_wp2)
     go_roundg k1
     case measure => have := HK1.out; omega
     case rel => exact ⟨(x9_1), (wrap64 (x10_1 + 1)), (x611000_1), (x611001_1), (x611002_1), (x611003_1), (x611004_1), (x611005_1), (x611006_1), (x611007_1), (x611008_1), (x611009_1), (x611010_1), (x611011_1), (x611012_1), reS, reS, H', ⟨by have := HK1.out; omega⟩, ⟨kB B_0⟩, ⟨kB B_1⟩, ⟨kB B_2⟩, ⟨hU HB.out⟩⟩
   ·rw [if_neg c10] at H
    have c10b0 := decide_eq_false c10
    clear c10
    simp only [Option.some.injEq, Prod.mk.injEq] at H
    obtain ⟨rfl, rfl, rfl, rfl, rfl, rfl, rfl, rfl, rfl, rfl, rfl, rfl, rfl, rfl⟩ := H
    have hnb22 := N_2.out
    have hnc22 := N_0.out
    have hnb23 := N_3.out
    have hnc23 := N_1.out
    have z_2 := Y1 B_2.out
    have f_c := Y3 B_2.out
    have hnb25 := N_5.out
    have hnc25 := N_4.out
    have z_7 := Y1 B_1.out
    have f_8 := Y3 B_1.out
    go_wp2
    repeat (go_quiet (fail); try go_wp2)
    refine bodyPost_ret (Y1r rfl _ _ g_0 30 #[.int .i64 x611000_1, .int .i64 x611001_1, .int .i64 x611002_1, .int .i64 x611003_1, .int .i64 x611004_1, .bool x611005_1, .int .i64 x611006_1, .int .i64 x611007_1, .int .i64 x611008_1, .int .i64 x611009_1, .int .i64 x611010_1, .int .i64 x611011_1, .int .i64 x611012_1] (0, 0) _ rfl (by (with_reducible repeat (first | refine Y6 ?_ _ | refine Y8 ?_ | refine Y5 ?_ _)); apply Yt; (iterate 12 ((with_reducible repeat (first | refine Y6 ?_ _ | refine Y8 ?_ | refine Y5 ?_ _)); apply Y1q)); (with_reducible repeat (first | refine Y6 ?_ _ | refine Y8 ?_ | refine Y5 ?_ _)); exact B_1.out; simp only [List.setIfInBounds_toArray, List.set_cons_zero, List.set_cons_succ]) Try.underlying30 rfl (by kernel_rfl)) rfl ?_
    exact ⟨reT, hU HB.out⟩
end Go.Proofs.Yteopkkoblbmggaa.P
end
section
namespace Go.Proofs.Yteopkkoblbmggaa.P
open Go.RowKit Go.Proofs.YteopkkoblbmggaaW.PrintWords Go.Proofs.YteopkkoblbmggaaW.PrintLast Go.Proofs.YteopkkoblbmggaaW.PrintMore
attribute [local go_sem] YU YW Y14 Y15 YJ YK YV YX
set_option linter.unusedVariables false
set_option linter.unusedSimpArgs false
def Yq.l0 : Nat → List (S28) → Int → Int → Int → Int → Int → Int → Int → Int → Option (Bool)
 | 0, _, _, _, _, _, _, _, _, _ => none
 | k + 1, x0, x5, x_4, x_2, x_0, x_1, x_5, x_6, x_3 => if x5 < (x0.length : Int) then (if 0 ≤ x5 then (if ((Yg x0 x5).f1) = x_2 then (if ((Yg x0 x5).f2) < (wrap64 (x_0 + x_1)) then (if x_0 < (wrap64 (((Yg x0 x5).f2) + ((Yg x0 x5).f3))) then (some false) else (Yq.l0 k x0 (wrap64 (x5 + 1)) x_4 x_2 x_0 x_1 x_5 x_6 x_3)) else (Yq.l0 k x0 (wrap64 (x5 + 1)) x_4 x_2 x_0 x_1 x_5 x_6 x_3)) else (Yq.l0 k x0 (wrap64 (x5 + 1)) x_4 x_2 x_0 x_1 x_5 x_6 x_3)) else (none)) else (some true)
def Yq.f (k : Nat) (l0 : List (S28)) (a1_0 : Int) (a1_1 : Int) (a1_2 : Int) (a1_3 : Int) (a1_4 : Int) (a1_5 : Int) (a1_6 : Int) : Option (Bool) := Yq.l0 k l0 0 a1_0 a1_1 a1_2 a1_3 a1_4 a1_5 a1_6
theorem Yq.mono_l : ∀ k, (∀ y0 y1 y2 y3 y4 y5 y6 y7 y8, LeO (Yq.l0 k y0 y1 y2 y3 y4 y5 y6 y7 y8) (Yq.l0 (k + 1) y0 y1 y2 y3 y4 y5 y6 y7 y8))
 | 0 => fun _ _ _ _ _ _ _ _ _ r h => by simp [Yq.l0] at h
 | k + 1 => by
  have ih0 := Yq.mono_l k
  ·intro y0 y1 y2 y3 y4 y5 y6 y7 y8
   unfold Yq.l0
   repeat' first
   | (with_reducible exact ih0 _ _ _ _ _ _ _ _ _)
   | (with_reducible exact LeO.refl _)
   | (with_reducible exact LeO.none _)
   | (with_reducible refine LeO.ite ?_ ?_)
   | (with_reducible refine LeO.bind ?_ (fun _ => ?_))
theorem Yq.mono : ∀ a0 a1 a2 a3 a4 a5 a6 a7 k, LeO (Yq.f k a0 a1 a2 a3 a4 a5 a6 a7) (Yq.f (k + 1) a0 a1 a2 a3 a4 a5 a6 a7) := by
 intro a0 a1 a2 a3 a4 a5 a6 a7 k
 have ih0 := Yq.mono_l k
 unfold Yq.f
 repeat' first
   | (with_reducible exact ih0 _ _ _ _ _ _ _ _ _)
   | (with_reducible exact LeO.refl _)
   | (with_reducible exact LeO.none _)
   | (with_reducible refine LeO.ite ?_ ?_)
   | (with_reducible refine LeO.bind ?_ (fun _ => ?_))
set_option maxHeartbeats 8000000 in
set_option maxRecDepth 100000 in
theorem Yq.calls (k : Nat) (A0 : Option Addr) (c0 : Nat) (l0 : List (S28)) (a1_0 : Int) (a1_1 : Int) (a1_2 : Int) (a1_3 : Int) (a1_4 : Int) (a1_5 : Int) (a1_6 : Int) (r : Bool) (w : World) (hr0 : Kd.C k28 w A0 l0.length l0) (hc0 : l0.length ≤ c0) (h : Yq.f k l0 a1_0 a1_1 a1_2 a1_3 a1_4 a1_5 a1_6 = some r) :
  Calls Try.prog 73 #[.slice A0 l0.length c0, .agg #[.int .i64 a1_0, .int .i64 a1_1, .int .i64 a1_2, .int .i64 a1_3, .int .i64 a1_4, .int .i64 a1_5, .int .i64 a1_6]] w fun e w' => e = .returned (.bool r) ∧ Below w.heap.size w w' := by
 have hu28 := Try.underlying28
 have HR0 := Y0.mk hr0
 have HC0 := Y0.mk hc0
 clear hr0 hc0
 have HB := Y0.mk (Below.refl w.heap.size w)
 have H : (Yq.l0 k l0 0 a1_0 a1_1 a1_2 a1_3 a1_4 a1_5 a1_6) = some r := h
 clear h
 have H' := Y0.mk H
 clear H
 go_enter Try.func73, Try.ntmps73
 go_wp2_with (first | ((with_reducible refine Yj (N := 3) rfl ?_); refine Yl ?hg (N := 3) ?hd (cs := #[.int .i64 a1_0, .int .i64 a1_1, .int .i64 a1_2, .int .i64 a1_3, .int .i64 a1_4, .int .i64 a1_5, .int .i64 a1_6]) (t := 28) ?hr ?_; (case hd => rfl); (case hg => rfl); (case hr => first | (go_simp; done) | (go_simp; rfl)); intro g_0 hg w3 hbox hb; have n0_ := Y0.mk (Y4 (hU HB.out) hb); have n1_ := Y0.mk (hbox); have n2_ := gE hg HB; have n3_ := gE hg HB; clear HB; have HB := n0_; have B_0 := n1_; have W_0 := n2_; have G_0 := n3_; clear n0_ n1_ n2_ n3_; clear hb hbox hg))
 repeat (go_quiet (first | ((with_reducible refine Yj (N := 3) rfl ?_); refine Yl ?hg (N := 3) ?hd (cs := #[.int .i64 a1_0, .int .i64 a1_1, .int .i64 a1_2, .int .i64 a1_3, .int .i64 a1_4, .int .i64 a1_5, .int .i64 a1_6]) (t := 28) ?hr ?_; (case hd => rfl); (case hg => rfl); (case hr => first | (go_simp; done) | (go_simp; rfl)); intro g_0 hg w3 hbox hb; have n0_ := Y0.mk (Y4 (hU HB.out) hb); have n1_ := Y0.mk (hbox); have n2_ := gE hg HB; have n3_ := gE hg HB; clear HB; have HB := n0_; have B_0 := n1_; have W_0 := n2_; have G_0 := n3_; clear n0_ n1_ n2_ n3_; clear hb hbox hg)); try go_wp2_with (first | ((with_reducible refine Yj (N := 3) rfl ?_); refine Yl ?hg (N := 3) ?hd (cs := #[.int .i64 a1_0, .int .i64 a1_1, .int .i64 a1_2, .int .i64 a1_3, .int .i64 a1_4, .int .i64 a1_5, .int .i64 a1_6]) (t := 28) ?hr ?_; (case hd => rfl); (case hg => rfl); (case hr => first | (go_simp; done) | (go_simp; rfl)); intro g_0 hg w3 hbox hb; have n0_ := Y0.mk (Y4 (hU HB.out) hb); have n1_ := Y0.mk (hbox); have n2_ := gE hg HB; have n3_ := gE hg HB; clear HB; have HB := n0_; have B_0 := n1_; have W_0 := n2_; have G_0 := n3_; clear n0_ n1_ n2_ n3_; clear hb hbox hg)))
 go_loopg [5] k (fun kq v5 w' => ∃ (x5_1 : Int), v5 = .int .i64 x5_1 ∧ Y0 (Yq.l0 kq l0 x5_1 a1_0 a1_1 a1_2 a1_3 a1_4 a1_5 a1_6 = some r) ∧ Y0 (kq ≤ k) ∧ Y0 (w'.heap[g_0]? = some (.cells #[.int .i64 a1_0, .int .i64 a1_1, .int .i64 a1_2, .int .i64 a1_3, .int .i64 a1_4, .int .i64 a1_5, .int .i64 a1_6] 28 (0, 0))) ∧ Y0 (Below w.heap.size w w'))
 case atStart => exact ⟨(0), reS, H', ⟨Nat.le_refl _⟩, ⟨kB B_0⟩, ⟨hU HB.out⟩⟩
 case round =>
  clear H'
  try clear p2
  obtain ⟨x5_1, rfl, HA, HK1, B_0, HB⟩ := hrel
  cases gk with
  | zero => exact absurd HA.out (by simp [Yq.l0])
  | succ k1 =>
   have H := HA.out
   clear HA
   simp only [Yq.l0] at H
   by_cases c4 : x5_1 < (l0.length : Int)
   ·rw [if_pos c4] at H
    have c4b0 := decide_eq_true c4
    clear c4
    obtain ⟨c5, H⟩ := iS H
    have c5b0 := decide_eq_true c5
    clear c5
    by_cases c6 : ((Yg l0 x5_1).f1) = a1_1
    ·rw [if_pos c6] at H
     have c6b0 := bqT c6
     have c6b1 := bnF c6
     clear c6
     by_cases c7 : ((Yg l0 x5_1).f2) < (wrap64 (a1_2 + a1_3))
     ·rw [if_pos c7] at H
      have c7b0 := decide_eq_true c7
      clear c7
      by_cases c8 : a1_2 < (wrap64 (((Yg l0 x5_1).f2) + ((Yg l0 x5_1).f3)))
      ·rw [if_pos c8] at H
       have c8b0 := decide_eq_true c8
       clear c8
       obtain rfl := Option.some.inj H
       have p615 : 0 ≤ (x5_1 : Int) := of_decide_eq_true (by first | (with_reducible assumption) | assumption)
       have q615 : x5_1 < (l0.length : Int) := of_decide_eq_true (by first | (with_reducible assumption) | assumption)
       obtain ⟨d_0, e615, m_3, m_5, m_4, m_6, m_0, m_2, m_1⟩ := Y1C HR0.out x5_1 p615 q615
       cases e615
       replace m_3 := hbC HB m_3
       replace m_5 := hbC HB m_5
       replace m_4 := hbC HB m_4
       replace m_6 := hbC HB m_6
       replace m_0 := hbC HB m_0
       replace m_2 := hbC HB m_2
       replace m_1 := hbC HB m_1
       replace p615 := eq_true p615
       replace q615 := eq_true q615
       have z_3 := Y1 B_0.out
       have f_2 := Y3 B_0.out
       have p616 : 0 ≤ (x5_1 : Int) := of_decide_eq_true (by first | (with_reducible assumption) | assumption)
       have q616 : x5_1 < (l0.length : Int) := of_decide_eq_true (by first | (with_reducible assumption) | assumption)
       obtain ⟨d_1, e616, m_9, m_d, m_7, m_b, m_8, m_c, m_a⟩ := Y1C HR0.out x5_1 p616 q616
       obtain rfl : d_0 = d_1 := (by injection e616)
       replace m_9 := hbC HB m_9
       replace m_d := hbC HB m_d
       replace m_7 := hbC HB m_7
       replace m_b := hbC HB m_b
       replace m_8 := hbC HB m_8
       replace m_c := hbC HB m_c
       replace m_a := hbC HB m_a
       replace p616 := eq_true p616
       replace q616 := eq_true q616
       have p617 : 0 ≤ (x5_1 : Int) := of_decide_eq_true (by first | (with_reducible assumption) | assumption)
       have q617 : x5_1 < (l0.length : Int) := of_decide_eq_true (by first | (with_reducible assumption) | assumption)
       obtain ⟨d_3, e617, m_m, m_k, m_l, m_q, m_e, m_o, m_r⟩ := Y1C HR0.out x5_1 p617 q617
       obtain rfl : d_0 = d_3 := (by injection e617)
       replace m_m := hbC HB m_m
       replace m_k := hbC HB m_k
       replace m_l := hbC HB m_l
       replace m_q := hbC HB m_q
       replace m_e := hbC HB m_e
       replace m_o := hbC HB m_o
       replace m_r := hbC HB m_r
       replace p617 := eq_true p617
       replace q617 := eq_true q617
       have p618 : 0 ≤ (x5_1 : Int) := of_decide_eq_true (by first | (with_reducible assumption) | assumption)
       have q618 : x5_1 < (l0.length : Int) := of_decide_eq_true (by first | (with_reducible assumption) | assumption)
       obtain ⟨d_2, e618, m_h, m_g, m_p, m_n, m_i, m_j, m_f⟩ := Y1C HR0.out x5_1 p618 q618
       obtain rfl : d_0 = d_2 := (by injection e618)
       replace m_h := hbC HB m_h
       replace m_g := hbC HB m_g
       replace m_p := hbC HB m_p
       replace m_n := hbC HB m_n
       replace m_i := hbC HB m_i
       replace m_j := hbC HB m_j
       replace m_f := hbC HB m_f
       replace p618 := eq_true p618
       replace q618 := eq_true q618
       go_wp2
       repeat (go_quiet (fail); try go_wp2)
       go_ret
       exact ⟨reT, hU HB.out⟩
      ·rw [if_neg c8] at H
       have c8b0 := decide_eq_false c8
       clear c8
       have H' := Y0.mk H
       clear H
       have p615 : 0 ≤ (x5_1 : Int) := of_decide_eq_true (by first | (with_reducible assumption) | assumption)
       have q615 : x5_1 < (l0.length : Int) := of_decide_eq_true (by first | (with_reducible assumption) | assumption)
       obtain ⟨d_0, e615, m_3, m_5, m_4, m_6, m_0, m_2, m_1⟩ := Y1C HR0.out x5_1 p615 q615
       cases e615
       replace m_3 := hbC HB m_3
       replace m_5 := hbC HB m_5
       replace m_4 := hbC HB m_4
       replace m_6 := hbC HB m_6
       replace m_0 := hbC HB m_0
       replace m_2 := hbC HB m_2
       replace m_1 := hbC HB m_1
       replace p615 := eq_true p615
       replace q615 := eq_true q615
       have z_0 := Y1 B_0.out
       have f_0 := Y3 B_0.out
       have p616 : 0 ≤ (x5_1 : Int) := of_decide_eq_true (by first | (with_reducible assumption) | assumption)
       have q616 : x5_1 < (l0.length : Int) := of_decide_eq_true (by first | (with_reducible assumption) | assumption)
       obtain ⟨d_1, e616, m_9, m_d, m_7, m_b, m_8, m_c, m_a⟩ := Y1C HR0.out x5_1 p616 q616
       obtain rfl : d_0 = d_1 := (by injection e616)
       replace m_9 := hbC HB m_9
       replace m_d := hbC HB m_d
       replace m_7 := hbC HB m_7
       replace m_b := hbC HB m_b
       replace m_8 := hbC HB m_8
       replace m_c := hbC HB m_c
       replace m_a := hbC HB m_a
       replace p616 := eq_true p616
       replace q616 := eq_true q616
       have p617 : 0 ≤ (x5_1 : Int) := of_decide_eq_true (by first | (with_reducible assumption) | assumption)
       have q617 : x5_1 < (l0.length : Int) := of_decide_eq_true (by first | (with_reducible assumption) | assumption)
       obtain ⟨d_3, e617, m_m, m_k, m_l, m_q, m_e, m_o, m_r⟩ := Y1C HR0.out x5_1 p617 q617
       obtain rfl : d_0 = d_3 := (by injection e617)
       replace m_m := hbC HB m_m
       replace m_k := hbC HB m_k
       replace m_l := hbC HB m_l
       replace m_q := hbC HB m_q
       replace m_e := hbC HB m_e
       replace m_o := hbC HB m_o
       replace m_r := hbC HB m_r
       replace p617 := eq_true p617
       replace q617 := eq_true q617
       have p618 : 0 ≤ (x5_1 : Int) := of_decide_eq_true (by first | (with_reducible assumption) | assumption)
       have q618 : x5_1 < (l0.length : Int) := of_decide_eq_true (by first | (with_reducible assumption) | assumption)
       obtain ⟨d_2, e618, m_h, m_g, m_p, m_n, m_i, m_j, m_f⟩ := Y1C HR0.out x5_1 p618 q618
       obtain rfl : d_0 = d_2 := (by injection e618)
       replace m_h := hbC HB m_h
       replace m_g := hbC HB m_g
       replace m_p := hbC HB m_p
       replace m_n := hbC HB m_n
       replace m_i := hbC HB m_i
       replace m_j := hbC HB m_j
       replace m_f := hbC HB m_f
       replace p618 := eq_true p618
       replace q618 := eq_true q618
       go_wp2
       repeat (go_quiet (fail); try go_wp2)
       go_roundg k1
       case measure => have := HK1.out; omega
       case rel => exact ⟨(wrap64 (x5_1 + 1)), reS, H', ⟨by have := HK1.out; omega⟩, ⟨kB B_0⟩, ⟨hU HB.out⟩⟩
     ·rw [if_neg c7] at H
      have c7b0 := decide_eq_false c7
      clear c7
      have H' := Y0.mk H
      clear H
      have p615 : 0 ≤ (x5_1 : Int) := of_decide_eq_true (by first | (with_reducible assumption) | assumption)
      have q615 : x5_1 < (l0.length : Int) := of_decide_eq_true (by first | (with_reducible assumption) | assumption)
      obtain ⟨d_0, e615, m_3, m_5, m_4, m_6, m_0, m_2, m_1⟩ := Y1C HR0.out x5_1 p615 q615
      cases e615
      replace m_3 := hbC HB m_3
      replace m_5 := hbC HB m_5
      replace m_4 := hbC HB m_4
      replace m_6 := hbC HB m_6
      replace m_0 := hbC HB m_0
      replace m_2 := hbC HB m_2
      replace m_1 := hbC HB m_1
      replace p615 := eq_true p615
      replace q615 := eq_true q615
      have z_1 := Y1 B_0.out
      have f_1 := Y3 B_0.out
      have p616 : 0 ≤ (x5_1 : Int) := of_decide_eq_true (by first | (with_reducible assumption) | assumption)
      have q616 : x5_1 < (l0.length : Int) := of_decide_eq_true (by first | (with_reducible assumption) | assumption)
      obtain ⟨d_1, e616, m_9, m_d, m_7, m_b, m_8, m_c, m_a⟩ := Y1C HR0.out x5_1 p616 q616
      obtain rfl : d_0 = d_1 := (by injection e616)
      replace m_9 := hbC HB m_9
      replace m_d := hbC HB m_d
      replace m_7 := hbC HB m_7
      replace m_b := hbC HB m_b
      replace m_8 := hbC HB m_8
      replace m_c := hbC HB m_c
      replace m_a := hbC HB m_a
      replace p616 := eq_true p616
      replace q616 := eq_true q616
      go_wp2
      repeat (go_quiet (fail); try go_wp2)
      go_roundg k1
      case measure => have := HK1.out; omega
      case rel => exact ⟨(wrap64 (x5_1 + 1)), reS, H', ⟨by have := HK1.out; omega⟩, ⟨kB B_0⟩, ⟨hU HB.out⟩⟩
    ·rw [if_neg c6] at H
     have c6b0 := bqF c6
     have c6b1 := bnT c6
     have H' := Y0.mk H
     clear H
     have p615 : 0 ≤ (x5_1 : Int) := of_decide_eq_true (by first | (with_reducible assumption) | assumption)
     have q615 : x5_1 < (l0.length : Int) := of_decide_eq_true (by first | (with_reducible assumption) | assumption)
     obtain ⟨d_0, e615, m_3, m_5, m_4, m_6, m_0, m_2, m_1⟩ := Y1C HR0.out x5_1 p615 q615
     cases e615
     replace m_3 := hbC HB m_3
     replace m_5 := hbC HB m_5
     replace m_4 := hbC HB m_4
     replace m_6 := hbC HB m_6
     replace m_0 := hbC HB m_0
     replace m_2 := hbC HB m_2
     replace m_1 := hbC HB m_1
     replace p615 := eq_true p615
     replace q615 := eq_true q615
     have z_2 := Y1 B_0.out
     have f_3 := Y3 B_0.out
     go_wp2
     repeat (go_quiet (fail); try go_wp2)
     go_roundg k1
     case measure => have := HK1.out; omega
     case rel => exact ⟨(wrap64 (x5_1 + 1)), reS, H', ⟨by have := HK1.out; omega⟩, ⟨kB B_0⟩, ⟨hU HB.out⟩⟩
   ·rw [if_neg c4] at H
    have c4b0 := decide_eq_false c4
    clear c4
    obtain rfl := Option.some.inj H
    go_wp2
    repeat (go_quiet (fail); try go_wp2)
    go_ret
    exact ⟨reT, hU HB.out⟩
end Go.Proofs.Yteopkkoblbmggaa.P
end

/- Texts of this claim in one: VPExch; no condition. -/
import Derived.Test.YteopkkoblbmggaaQBAD
import Derived.Test.YteopkkoblbmggaaQBAO
import Derived.Test.YteopkkoblbmggaaQBAP
import Derived.Test.YteopkkoblbmggaaQBAE
import Derived.Test.YteopkkoblbmggaaQBAQ
import Derived.Test.YteopkkoblbmggaaQBAR
import Derived.Test.YteopkkoblbmggaaQBAJ
section
namespace Go.Proofs.Yteopkkoblbmggaa.P
open Go.RowKit Go.Proofs.YteopkkoblbmggaaW.PrintWords Go.Proofs.YteopkkoblbmggaaW.PrintLast Go.Proofs.YteopkkoblbmggaaW.PrintMore
attribute [local go_sem] YR YT Y11 Y12 YL YM YS YU
set_option linter.unusedVariables false
set_option linter.unusedSimpArgs false
def OutR (w W : World) (A0 : Option Addr) (c0 : Nat) (l0 : List S30) (u : Value) (xs : List S30) : Prop := Kd.R k30 30 W w.heap.size (fun _ => True) u xs ∨ (u = .slice A0 l0.length c0 ∧ xs = l0)
theorem OutR.slice {w W : World} {A0 : Option Addr} {c0 : Nat} {l0 : List S30} {u : Value} {xs : List S30} (h : OutR w W A0 c0 l0 u xs) : ∃ A c, u = .slice A xs.length c := by
  rcases h with h | ⟨rfl, rfl⟩
  · exact Kd.R_slice h
  · exact ⟨A0, c0, rfl⟩
theorem OutR.map {w W W' : World} {A0 : Option Addr} {c0 : Nat} {l0 : List S30} {u : Value} {xs : List S30} (f : Kd.R k30 30 W w.heap.size (fun _ => True) u xs → Kd.R k30 30 W' w.heap.size (fun _ => True) u xs) (h : OutR w W A0 c0 l0 u xs) : OutR w W' A0 c0 l0 u xs := h.imp f id
theorem OutR.reads {w W : World} {A0 A : Option Addr} {c0 c : Nat} {l0 xs : List S30} (hr : Kd.C k30 w A0 l0.length l0) (hc : l0.length ≤ c0) (hb : Below w.heap.size w W) (h : OutR w W A0 c0 l0 (.slice A xs.length c) xs) : xs.length ≤ c ∧ Kd.C k30 W A xs.length xs := by
  rcases h with h | ⟨hu, rfl⟩
  · exact (Kd.R_reads' h).2
  · simp only [Value.slice.injEq] at hu
    obtain ⟨rfl, -, rfl⟩ := hu
    exact ⟨hc, Kd.C_below hr hb⟩
def Yc.l0 : Nat → List (S30) → Int → Int → List (S30) → Int → List (S30) → Int → List (S30) → Int → List (S30) → Option (Bool)
  | 0, _, _, _, _, _, _, _, _, _, _ => none
  | k + 1, x7, x10, x_6, x_5, x_4, x_7, x_0, x_1, x_3, x_2 => if x10 < (x7.length : Int) then (if 0 ≤ x10 then ((YJ.f x_3 x_2 ((Y1 x7 x10).f0.f0) ((Y1 x7 x10).f0.f1) ((Y1 x7 x10).f1) ((Y1 x7 x10).f2.f0) ((Y1 x7 x10).f2.f1) ((Y1 x7 x10).f3) ((Y1 x7 x10).f4.f0) ((Y1 x7 x10).f4.f1) ((Y1 x7 x10).f4.f2) ((Y1 x7 x10).f4.f3) ((Y1 x7 x10).f4.f4) ((Y1 x7 x10).f4.f5) ((Y1 x7 x10).f4.f6)).bind fun b_2 => (if b_2.2.2 = 0 then (Yc.l0 k x7 (wrap64 (x10 + 1)) x_6 x_5 x_4 x_7 x_0 x_1 b_2.1 b_2.2.1) else (none))) else (none)) else ((Yk.f k x_6 x_5 x_0 x_1).bind fun b_4 => ((Yk.f k x_4 x_7 x_0 x_1).bind fun b_3 => ((Yk.f k x_0 x_1 x_3 x_2).bind fun b_5 => (if b_4.2 = 0 then (if b_3.2 = 0 then (if b_5.2 = 0 then (if (b_4.1.length : Int) = 0 then (if (b_3.1.length : Int) = 0 then (if (b_5.1.length : Int) = 0 then ((Yy.f k x_3 x_2 x_0 x_1).bind fun t_c => (if t_c = true then ((Ya.f k).bind fun t_7 => (some t_7)) else (none))) else (none)) else (none)) else (none)) else (none)) else (none)) else (none)))))
def Yc.f (k : Nat) (a0_0 : Int) (l0_1 : List (S30)) (a1_0 : Int) (l1_1 : List (S30)) : Option (Bool) := (Yo.f a0_0 l0_1).bind fun t_a => (if t_a = true then ((Ya.f k).bind fun t_5 => (some t_5)) else ((Yo.f a1_0 l1_1).bind fun t_b => (if t_b = true then ((Ya.f k).bind fun t_6 => (some t_6)) else ((Y9.f k a0_0 l0_1 a1_0 l1_1).bind fun b_0 => (if b_0.2.2 = 0 then ((Yk.f k a1_0 l1_1 a0_0 l0_1).bind fun b_1 => (if b_1.2 = 0 then (Yc.l0 k b_1.1 0 a0_0 l0_1 a1_0 l1_1 b_0.1 b_0.2.1 a0_0 l0_1) else (none))) else ((Ya.f k).bind fun t_9 => (some t_9)))))))
theorem Yc.mono_l : ∀ k, (∀ y0 y1 y2 y3 y4 y5 y6 y7 y8 y9, LeO (Yc.l0 k y0 y1 y2 y3 y4 y5 y6 y7 y8 y9) (Yc.l0 (k + 1) y0 y1 y2 y3 y4 y5 y6 y7 y8 y9))
  | 0 => fun _ _ _ _ _ _ _ _ _ _ r h => by simp [Yc.l0] at h
  | k + 1 => by
    have ih0 := Yc.mono_l k
    · intro y0 y1 y2 y3 y4 y5 y6 y7 y8 y9
      unfold Yc.l0
      repeat' first
      | (with_reducible exact ih0 _ _ _ _ _ _ _ _ _ _)
      | (with_reducible exact Ya.mono _)
      | (with_reducible exact Yy.mono _ _ _ _ _)
      | (with_reducible exact Y9.mono _ _ _ _ _)
      | (with_reducible exact Yk.mono _ _ _ _ _)
      | (with_reducible exact LeO.refl _)
      | (with_reducible exact LeO.none _)
      | (with_reducible refine LeO.ite ?_ ?_)
      | (with_reducible refine LeO.bind ?_ (fun _ => ?_))
theorem Yc.mono : ∀ a0 a1 a2 a3 k, LeO (Yc.f k a0 a1 a2 a3) (Yc.f (k + 1) a0 a1 a2 a3) := by
  intro a0 a1 a2 a3 k
  have ih0 := Yc.mono_l k
  unfold Yc.f
  repeat' first
      | (with_reducible exact ih0 _ _ _ _ _ _ _ _ _ _)
      | (with_reducible exact Ya.mono _)
      | (with_reducible exact Yy.mono _ _ _ _ _)
      | (with_reducible exact Y9.mono _ _ _ _ _)
      | (with_reducible exact Yk.mono _ _ _ _ _)
      | (with_reducible exact LeO.refl _)
      | (with_reducible exact LeO.none _)
      | (with_reducible refine LeO.ite ?_ ?_)
      | (with_reducible refine LeO.bind ?_ (fun _ => ?_))
def Yc.T13 : Bool × List (List Nat × List Nat) := (true, [([], []), ([], []), ([], []), ([1, 2], [1, 2]), ([3], [3]), ([0, 4], [0, 4]), ([5], [5]), ([6], [6]), ([6], [6]), ([], []), ([9, 7, 5, 0, 1, 2, 3, 4, 5, 6, 7, 9], [7, 9]), ([8, 10, 0, 1, 2, 3, 4, 5, 6, 7, 8, 9, 10], [8])])
def Yc.B13 : List Nat := [0, 0, 0, 6, 14, 31, 63, 127, 127, 0, 767, 2047]
theorem Yc.tab13 : rtab .any (opsOf Try.f10 13) = Yc.T13 := by kernel_rfl
theorem Yc.bits13 : Y1d Yc.T13.2 Yc.B13 = true := by kernel_rfl
set_option maxHeartbeats 8000000 in
set_option maxRecDepth 100000 in
theorem Yc.calls (k : Nat) (a0_0 : Int) (A0_1 : Option Addr) (c0_1 : Nat) (l0_1 : List (S30)) (a1_0 : Int) (A1_1 : Option Addr) (c1_1 : Nat) (l1_1 : List (S30)) (r : Bool) (w : World) (hr0_1 : Kd.C k30 w A0_1 l0_1.length l0_1) (hc0_1 : l0_1.length ≤ c0_1) (hr1_1 : Kd.C k30 w A1_1 l1_1.length l1_1) (hc1_1 : l1_1.length ≤ c1_1) (h : Yc.f k a0_0 l0_1 a1_0 l1_1 = some r) :
    Calls Try.prog 10 #[.agg #[.int .i64 a0_0, .slice A0_1 l0_1.length c0_1], .agg #[.int .i64 a1_0, .slice A1_1 l1_1.length c1_1]] w fun e w' => e = .returned (.bool r) ∧ Below w.heap.size w w' := by
  have hu24 := Try.underlying24
  have hu30 := Try.underlying30
  have HR0_1 := Y0.mk hr0_1
  have HC0_1 := Y0.mk hc0_1
  clear hr0_1 hc0_1
  have HR1_1 := Y0.mk hr1_1
  have HC1_1 := Y0.mk hc1_1
  clear hr1_1 hc1_1
  have HB := Y0.mk (Below.refl w.heap.size w)
  have H : ((Yo.f a0_0 l0_1).bind fun t_a => (if t_a = true then ((Ya.f k).bind fun t_5 => (some t_5)) else ((Yo.f a1_0 l1_1).bind fun t_b => (if t_b = true then ((Ya.f k).bind fun t_6 => (some t_6)) else ((Y9.f k a0_0 l0_1 a1_0 l1_1).bind fun b_0 => (if b_0.2.2 = 0 then ((Yk.f k a1_0 l1_1 a0_0 l0_1).bind fun b_1 => (if b_1.2 = 0 then (Yc.l0 k b_1.1 0 a0_0 l0_1 a1_0 l1_1 b_0.1 b_0.2.1 a0_0 l0_1) else (none))) else ((Ya.f k).bind fun t_9 => (some t_9)))))))) = some r := h
  clear h
  obtain ⟨t_a, A30, H⟩ := bS H
  try dsimp only at H
  have A3 := Y0.mk A30
  clear A30
  by_cases c4 : t_a = true
  · subst c4
    have H1 : ((Ya.f k).bind fun t_5 => (some t_5)) = some r := by rw [if_pos rfl] at H; exact H
    clear H
    have H := H1
    clear H1
    obtain ⟨t_5, A50, H⟩ := bS H
    replace H : (some t_5) = some r := H
    have A5 := Y0.mk A50
    clear A50
    obtain rfl := Option.some.inj H
    go_enter Try.func10, Try.ntmps10
    go_wp2_with (first | ((with_reducible refine Ye (N := 2) rfl ?_); (try (refine YD (by rfl) ?_; dsimp only)); refine Yf ?hg (N := 2) ?hd (cs := #[.int .i64 a0_0, .slice A0_1 l0_1.length c0_1]) (t := 24) ?hr ?_; (case hd => rfl); (case hg => rfl); (case hr => first | (go_simp; done) | (go_simp; rfl)); intro g_3 hg w6 hbox hb; have n0_ := Y0.mk (Y5 (hU HB.out) hb); have n1_ := Y0.mk (hbox); have n2_ := gE hg HB; have n3_ := gE hg HB; clear HB; have HB := n0_; have B_0 := n1_; have W_1 := n2_; have G_2 := n3_; clear n0_ n1_ n2_ n3_; clear hb hbox hg) | ((with_reducible refine Ye (N := 3) rfl ?_); (try (refine YD (by rfl) ?_; dsimp only)); refine Yf ?hg (N := 3) ?hd (cs := #[.int .i64 a1_0, .slice A1_1 l1_1.length c1_1]) (t := 24) ?hr ?_; (case hd => rfl); (case hg => rfl); (case hr => first | (go_simp; done) | (go_simp; rfl)); intro g_4 hg w7 hbox hb; have n0_ := Y0.mk (Y3 (bU B_0.out) hb); have n1_ := Y0.mk (Y5 (hU HB.out) hb); have n2_ := Y0.mk (hbox); have n3_ := gE hg HB; have n4_ := gE hg HB; have n5_ := gL hg B_0; have n6_ := gG hg B_0; clear B_0; clear HB; have B_0 := n0_; have HB := n1_; have B_2 := n2_; have W_2 := n3_; have G_1 := n4_; have N_6 := n5_; have N_5 := n6_; clear n0_ n1_ n2_ n3_ n4_ n5_ n6_; clear hb hbox hg; have hnb8 := N_6.out; have hnc8 := N_5.out; have z_0 := Y2 B_0.out; have f_3 := Y4 B_0.out) | ((with_reducible refine Yd (f := 22) rfl ?_); refine goesA (some 20) Try.func22 #[.agg #[.int .i64 a0_0, .slice A0_1 l0_1.length c0_1]] ?_; (with_reducible refine (Yo.calls a0_0 _ _ l0_1 true _ ?side1 ?side2 A3.out).mono ?_); (case side1 => repeat (first | exact (Kd.C_below HR0_1.out HB.out) | (with_reducible refine Kd.C_alloc ?_ _) | (with_reducible refine Kd.C_drewN ?_ _) | (with_reducible refine Kd.C_drew ?_))); (case side2 => exact HC0_1.out); rintro e w10 ⟨rfl, hb⟩; refine ⟨_, rfl, ?_⟩; have n0_ := Y0.mk (Y3 (bU B_0.out) hb); have n1_ := Y0.mk (Y3 (bU B_2.out) hb); have n2_ := Y0.mk (Y5 (hU HB.out) hb); clear B_0; clear B_2; clear HB; have B_0 := n0_; have B_2 := n1_; have HB := n2_; clear n0_ n1_ n2_; (try clear hb); (try clear hb2); (try clear hk); (try clear hi)) | ((with_reducible refine Yd (f := 18) rfl ?_); refine goesA (some 25) Try.func18 #[] ?_; (with_reducible refine (Ya.calls k  t_5 _ A5.out).mono ?_); rintro e w11 ⟨rfl, hb⟩; refine ⟨_, rfl, ?_⟩; have n0_ := Y0.mk (Y3 (bU B_0.out) hb); have n1_ := Y0.mk (Y3 (bU B_2.out) hb); have n2_ := Y0.mk (Y5 (hU HB.out) hb); clear B_0; clear B_2; clear HB; have B_0 := n0_; have B_2 := n1_; have HB := n2_; clear n0_ n1_ n2_; (try clear hb); (try clear hb2); (try clear hk); (try clear hi)))
    go_ret
    exact ⟨reT, hU HB.out⟩
  · replace c4 := Bool.eq_false_iff.mpr c4
    subst c4
    rw [if_neg (show ¬ (false = true) by decide)] at H
    obtain ⟨t_b, A120, H⟩ := bS H
    try dsimp only at H
    have A12 := Y0.mk A120
    clear A120
    by_cases c13 : t_b = true
    · subst c13
      have H1 : ((Ya.f k).bind fun t_6 => (some t_6)) = some r := by rw [if_pos rfl] at H; exact H
      clear H
      have H := H1
      clear H1
      obtain ⟨t_6, A140, H⟩ := bS H
      replace H : (some t_6) = some r := H
      have A14 := Y0.mk A140
      clear A140
      obtain rfl := Option.some.inj H
      go_enter Try.func10, Try.ntmps10
      go_wp2_with (first | ((with_reducible refine Ye (N := 2) rfl ?_); (try (refine YD (by rfl) ?_; dsimp only)); refine Yf ?hg (N := 2) ?hd (cs := #[.int .i64 a0_0, .slice A0_1 l0_1.length c0_1]) (t := 24) ?hr ?_; (case hd => rfl); (case hg => rfl); (case hr => first | (go_simp; done) | (go_simp; rfl)); intro g_3 hg w15 hbox hb; have n0_ := Y0.mk (Y5 (hU HB.out) hb); have n1_ := Y0.mk (hbox); have n2_ := gE hg HB; have n3_ := gE hg HB; clear HB; have HB := n0_; have B_0 := n1_; have W_1 := n2_; have G_2 := n3_; clear n0_ n1_ n2_ n3_; clear hb hbox hg) | ((with_reducible refine Ye (N := 3) rfl ?_); (try (refine YD (by rfl) ?_; dsimp only)); refine Yf ?hg (N := 3) ?hd (cs := #[.int .i64 a1_0, .slice A1_1 l1_1.length c1_1]) (t := 24) ?hr ?_; (case hd => rfl); (case hg => rfl); (case hr => first | (go_simp; done) | (go_simp; rfl)); intro g_4 hg w16 hbox hb; have n0_ := Y0.mk (Y3 (bU B_0.out) hb); have n1_ := Y0.mk (Y5 (hU HB.out) hb); have n2_ := Y0.mk (hbox); have n3_ := gE hg HB; have n4_ := gE hg HB; have n5_ := gL hg B_0; have n6_ := gG hg B_0; clear B_0; clear HB; have B_0 := n0_; have HB := n1_; have B_2 := n2_; have W_2 := n3_; have G_1 := n4_; have N_6 := n5_; have N_5 := n6_; clear n0_ n1_ n2_ n3_ n4_ n5_ n6_; clear hb hbox hg; have hnb17 := N_6.out; have hnc17 := N_5.out; have z_8 := Y2 B_0.out; have f_0 := Y4 B_0.out) | ((with_reducible refine Yd (f := 22) rfl ?_); refine goesA (some 20) Try.func22 #[.agg #[.int .i64 a0_0, .slice A0_1 l0_1.length c0_1]] ?_; (with_reducible refine (Yo.calls a0_0 _ _ l0_1 false _ ?side1 ?side2 A3.out).mono ?_); (case side1 => repeat (first | exact (Kd.C_below HR0_1.out HB.out) | (with_reducible refine Kd.C_alloc ?_ _) | (with_reducible refine Kd.C_drewN ?_ _) | (with_reducible refine Kd.C_drew ?_))); (case side2 => exact HC0_1.out); rintro e w19 ⟨rfl, hb⟩; refine ⟨_, rfl, ?_⟩; have n0_ := Y0.mk (Y3 (bU B_0.out) hb); have n1_ := Y0.mk (Y3 (bU B_2.out) hb); have n2_ := Y0.mk (Y5 (hU HB.out) hb); clear B_0; clear B_2; clear HB; have B_0 := n0_; have B_2 := n1_; have HB := n2_; clear n0_ n1_ n2_; (try clear hb); (try clear hb2); (try clear hk); (try clear hi); have z_7 := Y2 B_2.out; have f_5 := Y4 B_2.out) | (go_at_call 22; (with_reducible refine (Yo.calls a1_0 _ _ l1_1 true _ ?side1 ?side2 A12.out).mono ?_); (case side1 => repeat (first | exact (Kd.C_below HR1_1.out HB.out) | (with_reducible refine Kd.C_alloc ?_ _) | (with_reducible refine Kd.C_drewN ?_ _) | (with_reducible refine Kd.C_drew ?_))); (case side2 => exact HC1_1.out); rintro e w21 ⟨rfl, hb⟩; have n0_ := Y0.mk (Y3 (bU B_0.out) hb); have n1_ := Y0.mk (Y3 (bU B_2.out) hb); have n2_ := Y0.mk (Y5 (hU HB.out) hb); clear B_0; clear B_2; clear HB; have B_0 := n0_; have B_2 := n1_; have HB := n2_; clear n0_ n1_ n2_; (try clear hb); (try clear hb2); (try clear hk); (try clear hi)) | ((with_reducible refine Yd (f := 18) rfl ?_); refine goesA (some 25) Try.func18 #[] ?_; (with_reducible refine (Ya.calls k  t_6 _ A14.out).mono ?_); rintro e w22 ⟨rfl, hb⟩; refine ⟨_, rfl, ?_⟩; have n0_ := Y0.mk (Y3 (bU B_0.out) hb); have n1_ := Y0.mk (Y3 (bU B_2.out) hb); have n2_ := Y0.mk (Y5 (hU HB.out) hb); clear B_0; clear B_2; clear HB; have B_0 := n0_; have B_2 := n1_; have HB := n2_; clear n0_ n1_ n2_; (try clear hb); (try clear hb2); (try clear hk); (try clear hi)))
      go_ret
      exact ⟨reT, hU HB.out⟩
    · replace c13 := Bool.eq_false_iff.mpr c13
      subst c13
      rw [if_neg (show ¬ (false = true) by decide)] at H
      obtain ⟨⟨t_2, t_1, t_d⟩, A230, H⟩ := bS H
      try dsimp only at H
      have A23 := Y0.mk A230
      clear A230
      by_cases c24 : t_d = 0
      · rw [if_pos c24] at H
        have c24b0 := bqT c24
        have c24b1 := bnF c24
        clear c24
        obtain ⟨⟨t_0, t_f⟩, A250, H⟩ := bS H
        try dsimp only at H
        have A25 := Y0.mk A250
        clear A250
        by_cases c26 : t_f = 0
        · rw [if_pos c26] at H
          have c26b0 := bqT c26
          have c26b1 := bnF c26
          clear c26
          replace H : (Yc.l0 k t_0 0 a0_0 l0_1 a1_0 l1_1 t_2 t_1 a0_0 l0_1) = some r := H
          have H' := Y0.mk H
          clear H
          go_enter Try.func10, Try.ntmps10
          go_wp2_with (first | ((with_reducible refine Ye (N := 2) rfl ?_); (try (refine YD (by rfl) ?_; dsimp only)); refine Yf ?hg (N := 2) ?hd (cs := #[.int .i64 a0_0, .slice A0_1 l0_1.length c0_1]) (t := 24) ?hr ?_; (case hd => rfl); (case hg => rfl); (case hr => first | (go_simp; done) | (go_simp; rfl)); intro g_3 hg w28 hbox hb; have n0_ := Y0.mk (Y5 (hU HB.out) hb); have n1_ := Y0.mk (hbox); have n2_ := gE hg HB; have n3_ := gE hg HB; clear HB; have HB := n0_; have B_0 := n1_; have W_1 := n2_; have G_2 := n3_; clear n0_ n1_ n2_ n3_; clear hb hbox hg) | ((with_reducible refine Ye (N := 3) rfl ?_); (try (refine YD (by rfl) ?_; dsimp only)); refine Yf ?hg (N := 3) ?hd (cs := #[.int .i64 a1_0, .slice A1_1 l1_1.length c1_1]) (t := 24) ?hr ?_; (case hd => rfl); (case hg => rfl); (case hr => first | (go_simp; done) | (go_simp; rfl)); intro g_4 hg w29 hbox hb; have n0_ := Y0.mk (Y3 (bU B_0.out) hb); have n1_ := Y0.mk (Y5 (hU HB.out) hb); have n2_ := Y0.mk (hbox); have n3_ := gE hg HB; have n4_ := gE hg HB; have n5_ := gL hg B_0; have n6_ := gG hg B_0; clear B_0; clear HB; have B_0 := n0_; have HB := n1_; have B_2 := n2_; have W_2 := n3_; have G_1 := n4_; have N_6 := n5_; have N_5 := n6_; clear n0_ n1_ n2_ n3_ n4_ n5_ n6_; clear hb hbox hg; have hnb30 := N_6.out; have hnc30 := N_5.out; have z_4 := Y2 B_0.out; have f_6 := Y4 B_0.out) | ((with_reducible refine Yd (f := 22) rfl ?_); refine goesA (some 20) Try.func22 #[.agg #[.int .i64 a0_0, .slice A0_1 l0_1.length c0_1]] ?_; (with_reducible refine (Yo.calls a0_0 _ _ l0_1 false _ ?side1 ?side2 A3.out).mono ?_); (case side1 => repeat (first | exact (Kd.C_below HR0_1.out HB.out) | (with_reducible refine Kd.C_alloc ?_ _) | (with_reducible refine Kd.C_drewN ?_ _) | (with_reducible refine Kd.C_drew ?_))); (case side2 => exact HC0_1.out); rintro e w32 ⟨rfl, hb⟩; refine ⟨_, rfl, ?_⟩; have n0_ := Y0.mk (Y3 (bU B_0.out) hb); have n1_ := Y0.mk (Y3 (bU B_2.out) hb); have n2_ := Y0.mk (Y5 (hU HB.out) hb); clear B_0; clear B_2; clear HB; have B_0 := n0_; have B_2 := n1_; have HB := n2_; clear n0_ n1_ n2_; (try clear hb); (try clear hb2); (try clear hk); (try clear hi); have z_2 := Y2 B_2.out; have f_1 := Y4 B_2.out) | (go_at_call 22; (with_reducible refine (Yo.calls a1_0 _ _ l1_1 false _ ?side1 ?side2 A12.out).mono ?_); (case side1 => repeat (first | exact (Kd.C_below HR1_1.out HB.out) | (with_reducible refine Kd.C_alloc ?_ _) | (with_reducible refine Kd.C_drewN ?_ _) | (with_reducible refine Kd.C_drew ?_))); (case side2 => exact HC1_1.out); rintro e w34 ⟨rfl, hb⟩; have n0_ := Y0.mk (Y3 (bU B_0.out) hb); have n1_ := Y0.mk (Y3 (bU B_2.out) hb); have n2_ := Y0.mk (Y5 (hU HB.out) hb); clear B_0; clear B_2; clear HB; have B_0 := n0_; have B_2 := n1_; have HB := n2_; clear n0_ n1_ n2_; (try clear hb); (try clear hb2); (try clear hk); (try clear hi); have z_3 := Y2 B_0.out; have f_9 := Y4 B_0.out; have z_9 := Y2 B_2.out; have f_8 := Y4 B_2.out) | ((with_reducible refine Yd (f := 31) rfl ?_); refine goesA (some 29) Try.func31 #[.agg #[.int .i64 a0_0, .slice A0_1 l0_1.length c0_1], .agg #[.int .i64 a1_0, .slice A1_1 l1_1.length c1_1]] ?_; (with_reducible refine (Y9.calls k a0_0 _ _ l0_1 a1_0 _ _ l1_1 t_2 t_1 t_d _ ?side1 ?side2 ?side3 ?side4 A23.out).mono ?_); (case side1 => repeat (first | exact (Kd.C_below HR0_1.out HB.out) | (with_reducible refine Kd.C_alloc ?_ _) | (with_reducible refine Kd.C_drewN ?_ _) | (with_reducible refine Kd.C_drew ?_))); (case side2 => exact HC0_1.out); (case side3 => repeat (first | exact (Kd.C_below HR1_1.out HB.out) | (with_reducible refine Kd.C_alloc ?_ _) | (with_reducible refine Kd.C_drewN ?_ _) | (with_reducible refine Kd.C_drew ?_))); (case side4 => exact HC1_1.out); rintro e w37 ⟨v_2, rfl, ho0, hb⟩; refine ⟨_, rfl, ?_⟩; have n0_ := Y0.mk (Kd.R_lower ho0 (Yh (hU HB.out))); have n1_ := Y0.mk (Y3 (bU B_0.out) hb); have n2_ := Y0.mk (Y3 (bU B_2.out) hb); have n3_ := Y0.mk (Y5 (hU HB.out) hb); clear B_0; clear B_2; clear HB; have O_0 := n0_; have B_0 := n1_; have B_2 := n2_; have HB := n3_; clear n0_ n1_ n2_ n3_; (try clear hb); (try clear hb2); (try clear hk); (try clear hi); (try clear ho0)) | ((with_reducible refine Ye (N := 5) rfl ?_); (try (refine YD (by rfl) ?_; dsimp only)); refine Yf ?hg (N := 5) ?hd (cs := #[.int .i64 0, .slice none 0 0]) (t := 24) ?hr ?_; (case hd => rfl); (case hg => rfl); (case hr => first | (go_simp; done) | (go_simp; rfl)); intro g_2 hg w38 hbox hb; have n0_ := Y0.mk (Kd.R_below (Kd.rU O_0.out) hb); have n1_ := Y0.mk (Y3 (bU B_0.out) hb); have n2_ := Y0.mk (Y3 (bU B_2.out) hb); have n3_ := Y0.mk (Y5 (hU HB.out) hb); have n4_ := Y0.mk (hbox); have n5_ := gE hg HB; have n6_ := gE hg HB; have n7_ := gL hg B_0; have n8_ := gG hg B_0; have n9_ := gL hg B_2; have n10_ := gG hg B_2; clear O_0; clear B_0; clear B_2; clear HB; have O_0 := n0_; have B_0 := n1_; have B_2 := n2_; have HB := n3_; have B_3 := n4_; have W_3 := n5_; have G_3 := n6_; have N_4 := n7_; have N_g := n8_; have N_7 := n9_; have N_f := n10_; clear n0_ n1_ n2_ n3_ n4_ n5_ n6_ n7_ n8_ n9_ n10_; clear hb hbox hg; have hnb39 := N_g.out; have hnc39 := N_4.out; have hnb40 := N_f.out; have hnc40 := N_7.out; have z_1 := Y2 B_3.out; have f_2 := Y4 B_3.out; obtain ⟨Ao42, co42, eo42⟩ := Kd.R_slice O_0.out; subst eo42; have z_6 := Y2 B_2.out; have f_a := Y4 B_2.out; have z_5 := Y2 B_0.out; have f_4 := Y4 B_0.out) | ((with_reducible refine Yd (f := 36) rfl ?_); refine goesA (some 38) Try.func36 #[.agg #[.int .i64 a1_0, .slice A1_1 l1_1.length c1_1], .agg #[.int .i64 a0_0, .slice A0_1 l0_1.length c0_1]] ?_; (with_reducible refine (Yk.calls k a1_0 _ _ l1_1 a0_0 _ _ l0_1 t_0 t_f _ ?side1 ?side2 ?side3 ?side4 A25.out).mono ?_); (case side1 => exact Kd.C_below HR1_1.out (hU HB.out)); (case side2 => exact HC1_1.out); (case side3 => exact Kd.C_below HR0_1.out (hU HB.out)); (case side4 => exact HC0_1.out); rintro e w45 ⟨v_1, rfl, ho0, hb⟩; refine ⟨_, rfl, ?_⟩; have n0_ := Y0.mk (Kd.R_elder' (by (with_reducible repeat (first | apply Kd.R_alloc | apply Kd.R_drewN | apply Kd.R_drew)); exact (Kd.R_mono (Kd.R_far (p := ⟨g_2, 1, none⟩) (Kd.R_far (p := ⟨g_2, 0, none⟩) (Kd.R_types O_0.out B_3.out (by decide)) (fun _ hk => hk.2) (.int .i64 t_2)) (fun _ hk => hk.2) (.slice Ao42 t_1.length co42)) (fun _ h_ => h_.1))) (Kd.R_base ho0) hb); have n1_ := Y0.mk (Kd.R_lower (Kd.R_new' ho0 (Kd.R_lt (by (with_reducible repeat (first | apply Kd.R_alloc | apply Kd.R_drewN | apply Kd.R_drew)); exact (Kd.R_mono (Kd.R_far (p := ⟨g_2, 1, none⟩) (Kd.R_far (p := ⟨g_2, 0, none⟩) (Kd.R_types O_0.out B_3.out (by decide)) (fun _ hk => hk.2) (.int .i64 t_2)) (fun _ hk => hk.2) (.slice Ao42 t_1.length co42)) (fun _ h_ => h_.1))))) (Yh (hU HB.out))); have n2_ := Y0.mk (Y3 (g := g_3) (o := .cells #[.int .i64 a0_0, .slice A0_1 l0_1.length c0_1] 24 (0, 0)) (by (with_reducible repeat (first | refine Y8 ?_ _ | refine Y7 ?_ | refine Y6 ?_ _)); refine (Below.heap_setCell _ ⟨_, _, none⟩ _ _ N_4.out).trans ?_; (with_reducible repeat (first | refine Y8 ?_ _ | refine Y7 ?_ | refine Y6 ?_ _)); refine (Below.heap_setCell _ ⟨_, _, none⟩ _ _ N_4.out).trans ?_; (with_reducible repeat (first | refine Y8 ?_ _ | refine Y7 ?_ | refine Y6 ?_ _)); exact B_0.out) hb); have n3_ := Y0.mk (Y3 (g := g_4) (o := .cells #[.int .i64 a1_0, .slice A1_1 l1_1.length c1_1] 24 (0, 0)) (by (with_reducible repeat (first | refine Y8 ?_ _ | refine Y7 ?_ | refine Y6 ?_ _)); refine (Below.heap_setCell _ ⟨_, _, none⟩ _ _ N_7.out).trans ?_; (with_reducible repeat (first | refine Y8 ?_ _ | refine Y7 ?_ | refine Y6 ?_ _)); refine (Below.heap_setCell _ ⟨_, _, none⟩ _ _ N_7.out).trans ?_; (with_reducible repeat (first | refine Y8 ?_ _ | refine Y7 ?_ | refine Y6 ?_ _)); exact B_2.out) hb); have n4_ := Y0.mk (Y3 (g := g_2) (o := .cells #[.int .i64 t_2, .slice Ao42 t_1.length co42] 24 (0, 0)) (by (with_reducible repeat (first | refine Y8 ?_ _ | refine Y7 ?_ | refine Y6 ?_ _)); refine Yn (cs := #[.int .i64 t_2, .slice none 0 0]) ?_ 1 _ rfl; (with_reducible repeat (first | refine Y8 ?_ _ | refine Y7 ?_ | refine Y6 ?_ _)); refine Yn (cs := #[.int .i64 0, .slice none 0 0]) ?_ 0 _ rfl; (with_reducible repeat (first | refine Y8 ?_ _ | refine Y7 ?_ | refine Y6 ?_ _)); exact B_3.out) hb); have n5_ := Y0.mk (Y5 (hU HB.out) hb); clear O_0; clear B_0; clear B_2; clear B_3; clear HB; have O_0 := n0_; have O_5 := n1_; have B_0 := n2_; have B_2 := n3_; have B_3 := n4_; have HB := n5_; clear n0_ n1_ n2_ n3_ n4_ n5_; (try clear hb); (try clear hb2); (try clear hk); (try clear hi); (try clear ho0); have hcz2z_0 := Y2 B_0.out; have hfz2z_0 := Y4 B_0.out) | ((with_reducible refine Ye (N := 9) rfl ?_); (try (refine YD (by rfl) ?_; dsimp only)); refine Yf ?hg (N := 9) ?hd (cs := #[.int .i64 0, .slice none 0 0]) (t := 24) ?hr ?_; (case hd => rfl); (case hg => rfl); (case hr => first | (go_simp; done) | (go_simp; rfl)); intro g_1 hg w47 hbox hb; have n0_ := Y0.mk (Kd.R_below (Kd.rU O_0.out) hb); have n1_ := Y0.mk (Kd.R_below (Kd.rU O_5.out) hb); have n2_ := Y0.mk True.intro; have n3_ := Y0.mk (Y3 (bU B_0.out) hb); have n4_ := Y0.mk (Y3 (bU B_2.out) hb); have n5_ := Y0.mk (Y3 (bU B_3.out) hb); have n6_ := Y0.mk (Y5 (hU HB.out) hb); have n7_ := Y0.mk (hbox); have n8_ := gE hg HB; have n9_ := gE hg HB; have n10_ := gL hg B_0; have n11_ := gG hg B_0; have n12_ := gL hg B_2; have n13_ := gG hg B_2; have n14_ := gL hg B_3; have n15_ := gG hg B_3; clear O_0; clear O_5; clear B_0; clear B_2; clear B_3; clear HB; have O_0 := n0_; have O_5 := n1_; have O_6 := n2_; have B_0 := n3_; have B_2 := n4_; have B_3 := n5_; have HB := n6_; have B_4 := n7_; have W_4 := n8_; have G_4 := n9_; have N_d := n10_; have N_i := n11_; have N_c := n12_; have N_j := n13_; have N_e := n14_; have N_h := n15_; clear n0_ n1_ n2_ n3_ n4_ n5_ n6_ n7_ n8_ n9_ n10_ n11_ n12_ n13_ n14_ n15_; clear hb hbox hg; have hnb48 := N_i.out; have hnc48 := N_d.out; have hnb49 := N_j.out; have hnc49 := N_c.out; have hnb50 := N_h.out; have hnc50 := N_e.out; have z_a := Y2 B_4.out; have f_7 := Y4 B_4.out))
          go_loopg [10] k (fun kq v10 w' => ∃ (x10_1 : Int) (x1028000_1 : Int) (x1028001_1 : List (S30)) (u1028001 : Value), v10 = .int .i64 x10_1 ∧ Y0 (Yc.l0 kq t_0 x10_1 a0_0 l0_1 a1_0 l1_1 t_2 t_1 x1028000_1 x1028001_1 = some r) ∧ Y0 (kq ≤ k) ∧ Y0 (Kd.R k30 30 w' w.heap.size (fun k_ => some k_ ≠ ((.slice Ao42 t_1.length co42) : Value).ownBlock) v_1 t_0) ∧ Y0 (Kd.R k30 30 w' w.heap.size (fun k_ => some k_ ≠ (v_1 : Value).ownBlock) (.slice Ao42 t_1.length co42) t_1) ∧ Y0 (OutR w w' A0_1 c0_1 l0_1 u1028001 x1028001_1) ∧ Y0 (w'.heap[g_3]? = some (.cells #[.int .i64 a0_0, (.slice A0_1 l0_1.length c0_1)] 24 (0, 0))) ∧ Y0 (w'.heap[g_4]? = some (.cells #[.int .i64 a1_0, (.slice A1_1 l1_1.length c1_1)] 24 (0, 0))) ∧ Y0 (w'.heap[g_2]? = some (.cells #[.int .i64 t_2, (.slice Ao42 t_1.length co42)] 24 (0, 0))) ∧ Y0 (w'.heap[g_1]? = some (.cells #[.int .i64 x1028000_1, u1028001] 24 (0, 0))) ∧ Y0 (Below w.heap.size w w'))
          case atStart => exact ⟨(0), (a0_0), (l0_1), (.slice A0_1 l0_1.length c0_1), reS, H', ⟨Nat.le_refl _⟩, ⟨by (with_reducible repeat (first | apply Kd.R_alloc | apply Kd.R_drewN | apply Kd.R_drew)); exact Kd.R_mono (Kd.R_far (p := ⟨g_1, 1, none⟩) (Kd.R_far (p := ⟨g_1, 0, none⟩) (Kd.R_types O_5.out B_4.out (by decide)) (fun _ hk => hk.2) (.int .i64 a0_0)) (fun _ hk => hk.2) (.slice A0_1 l0_1.length c0_1)) (fun _ hk => by first | exact ⟨hk.1.1.2, hk.1.2⟩ | (revert hk; (try simp only [and_imp]); intros; (repeat' apply And.intro) <;> first | assumption | trivial))⟩, ⟨by (with_reducible repeat (first | apply Kd.R_alloc | apply Kd.R_drewN | apply Kd.R_drew)); exact Kd.R_mono (Kd.R_far (p := ⟨g_1, 1, none⟩) (Kd.R_far (p := ⟨g_1, 0, none⟩) (Kd.R_types O_0.out B_4.out (by decide)) (fun _ hk => hk.2) (.int .i64 a0_0)) (fun _ hk => hk.2) (.slice A0_1 l0_1.length c0_1)) (fun _ hk => by first | exact ⟨hk.1.1.2, hk.1.2⟩ | (revert hk; (try simp only [and_imp]); intros; (repeat' apply And.intro) <;> first | assumption | trivial))⟩, ⟨Or.inr ⟨rfl, rfl⟩⟩, ⟨by (with_reducible repeat (first | refine Y8 ?_ _ | refine Y7 ?_ | refine Y6 ?_ _)); refine (Below.heap_setCell _ ⟨_, _, none⟩ _ _ N_d.out).trans ?_; (with_reducible repeat (first | refine Y8 ?_ _ | refine Y7 ?_ | refine Y6 ?_ _)); refine (Below.heap_setCell _ ⟨_, _, none⟩ _ _ N_d.out).trans ?_; (with_reducible repeat (first | refine Y8 ?_ _ | refine Y7 ?_ | refine Y6 ?_ _)); exact B_0.out⟩, ⟨by (with_reducible repeat (first | refine Y8 ?_ _ | refine Y7 ?_ | refine Y6 ?_ _)); refine (Below.heap_setCell _ ⟨_, _, none⟩ _ _ N_c.out).trans ?_; (with_reducible repeat (first | refine Y8 ?_ _ | refine Y7 ?_ | refine Y6 ?_ _)); refine (Below.heap_setCell _ ⟨_, _, none⟩ _ _ N_c.out).trans ?_; (with_reducible repeat (first | refine Y8 ?_ _ | refine Y7 ?_ | refine Y6 ?_ _)); exact B_2.out⟩, ⟨by (with_reducible repeat (first | refine Y8 ?_ _ | refine Y7 ?_ | refine Y6 ?_ _)); refine (Below.heap_setCell _ ⟨_, _, none⟩ _ _ N_e.out).trans ?_; (with_reducible repeat (first | refine Y8 ?_ _ | refine Y7 ?_ | refine Y6 ?_ _)); refine (Below.heap_setCell _ ⟨_, _, none⟩ _ _ N_e.out).trans ?_; (with_reducible repeat (first | refine Y8 ?_ _ | refine Y7 ?_ | refine Y6 ?_ _)); exact B_3.out⟩, ⟨by (with_reducible repeat (first | refine Y8 ?_ _ | refine Y7 ?_ | refine Y6 ?_ _)); refine Yn (cs := #[.int .i64 a0_0, .slice none 0 0]) ?_ 1 _ rfl; (with_reducible repeat (first | refine Y8 ?_ _ | refine Y7 ?_ | refine Y6 ?_ _)); refine Yn (cs := #[.int .i64 0, .slice none 0 0]) ?_ 0 _ rfl; (with_reducible repeat (first | refine Y8 ?_ _ | refine Y7 ?_ | refine Y6 ?_ _)); exact B_4.out⟩, ⟨hU HB.out⟩⟩
          case round =>
            clear H'
            try clear hcz2z_0
            try clear hfz2z_0
            try clear c1
            try clear c2
            try clear p2
            try clear c3
            try clear c4
            try clear c5
            try clear c8
            try clear c10
            try clear c13
            try clear c17
            try clear c18
            try clear c22
            try clear c24
            try clear c24b0
            try clear c24b1
            try clear c26
            try clear c26b0
            try clear c26b1
            try clear c30
            try clear c31
            try clear c35
            try clear c36
            try clear c39
            try clear c40
            try clear c48
            try clear c49
            try clear c50
            try clear z_8
            try clear z_v
            try clear z_7
            try clear z_k
            try clear z_4
            try clear z_n
            try clear z_2
            try clear z_c
            try clear z_3
            try clear z_z
            try clear z_9
            try clear z_l
            try clear z_1
            try clear z_o
            try clear z_6
            try clear z_q
            try clear z_5
            try clear z_p
            try clear z_a
            try clear z_i
            try clear z_0
            try clear z_10
            try clear f_0
            try clear f_b
            try clear f_5
            try clear f_k
            try clear f_6
            try clear f_v
            try clear f_1
            try clear f_n
            try clear f_9
            try clear f_w
            try clear f_8
            try clear f_y
            try clear f_2
            try clear f_d
            try clear f_a
            try clear f_c
            try clear f_4
            try clear f_o
            try clear f_7
            try clear f_i
            try clear f_3
            try clear f_p
            obtain ⟨x10_1, x1028000_1, x1028001_1, u1028001, rfl, HA, HK1, HO_7, HO_1019001, HO_1028001, B_0, B_2, B_3, B_4, HB⟩ := hrel
            cases gk with
            | zero => exact absurd HA.out (by simp [Yc.l0])
            | succ k1 =>
              have H := HA.out
              clear HA
              simp only [Yc.l0] at H
              by_cases c53 : x10_1 < (t_0.length : Int)
              · rw [if_pos c53] at H
                have c53b0 := decide_eq_true c53
                clear c53
                by_cases c54 : 0 ≤ x10_1
                · rw [if_pos c54] at H
                  have c54b0 := decide_eq_true c54
                  clear c54
                  obtain ⟨⟨t_3, t_4, t_8⟩, A550, H⟩ := bS H
                  try dsimp only at H
                  have A55 := Y0.mk A550
                  clear A550
                  by_cases c56 : t_8 = 0
                  · rw [if_pos c56] at H
                    have c56b0 := bqT c56
                    have c56b1 := bnF c56
                    clear c56
                    have H' := Y0.mk H
                    clear H
                    obtain ⟨Ao57, co57, eo57⟩ := Kd.R_slice HO_7.out
                    subst eo57
                    obtain ⟨Ao58, co58, eo58⟩ := OutR.slice HO_1028001.out
                    subst eo58
                    try go_wp2
                    have n0_ := Y0.mk (Kd.R_drew HO_7.out)
                    have n1_ := Y0.mk (Kd.R_drew HO_1019001.out)
                    have n2_ := Y0.mk (OutR.map (fun h_ => Kd.R_drew h_) HO_1028001.out)
                    have n3_ := Y0.mk (Y7 B_0.out)
                    have n4_ := Y0.mk (Y7 B_2.out)
                    have n5_ := Y0.mk (Y7 B_3.out)
                    have n6_ := Y0.mk (Y7 B_4.out)
                    have n7_ := Y0.mk (Yv HB.out)
                    clear HO_7
                    clear HO_1019001
                    clear HO_1028001
                    clear B_0
                    clear B_2
                    clear B_3
                    clear B_4
                    clear HB
                    have HO_7 := n0_
                    have HO_1019001 := n1_
                    have HO_1028001 := n2_
                    have B_0 := n3_
                    have B_2 := n4_
                    have B_3 := n5_
                    have B_4 := n6_
                    have HB := n7_
                    clear n0_ n1_ n2_ n3_ n4_ n5_ n6_ n7_
                    have p1028 : 0 ≤ (x10_1 : Int) := of_decide_eq_true (by first | (with_reducible assumption) | assumption)
                    have q1028 : x10_1 < (t_0.length : Int) := of_decide_eq_true (by first | (with_reducible assumption) | assumption)
                    obtain ⟨d_0, e1028, m_0, m_7, m_6, m_5, m_9, m_8, m_2, m_1, m_4, m_a, m_c, m_3, m_b⟩ := Y14 (Kd.R_reads' HO_7.out).2.2 x10_1 p1028 q1028
                    cases e1028
                    replace p1028 := eq_true p1028
                    replace q1028 := eq_true q1028
                    refine Y19 (n := 12) (S := fun w' => w'.cell? ⟨g_1, 0, none⟩ = some (.int .i64 x1028000_1) ∧ w'.cell? ⟨g_1, 1, none⟩ = some (.slice Ao58 x1028001_1.length co58) ∧ w'.cell? (d_0.add ((x10_1).toNat * 13)) = some (.int .i64 ((Y1 t_0 x10_1).f0.f0)) ∧ w'.cell? ⟨(d_0.add ((x10_1).toNat * 13)).block, (d_0.add ((x10_1).toNat * 13)).off + 1, none⟩ = some (.int .i64 ((Y1 t_0 x10_1).f0.f1)) ∧ w'.cell? ⟨(d_0.add ((x10_1).toNat * 13)).block, (d_0.add ((x10_1).toNat * 13)).off + 2, none⟩ = some (.int .i64 ((Y1 t_0 x10_1).f1)) ∧ w'.cell? ⟨(d_0.add ((x10_1).toNat * 13)).block, (d_0.add ((x10_1).toNat * 13)).off + 3, none⟩ = some (.int .i64 ((Y1 t_0 x10_1).f2.f0)) ∧ w'.cell? ⟨(d_0.add ((x10_1).toNat * 13)).block, (d_0.add ((x10_1).toNat * 13)).off + 4, none⟩ = some (.int .i64 ((Y1 t_0 x10_1).f2.f1)) ∧ w'.cell? ⟨(d_0.add ((x10_1).toNat * 13)).block, (d_0.add ((x10_1).toNat * 13)).off + 5, none⟩ = some (.bool ((Y1 t_0 x10_1).f3)) ∧ w'.cell? ⟨(d_0.add ((x10_1).toNat * 13)).block, (d_0.add ((x10_1).toNat * 13)).off + 6, none⟩ = some (.int .i64 ((Y1 t_0 x10_1).f4.f0)) ∧ w'.cell? ⟨(d_0.add ((x10_1).toNat * 13)).block, (d_0.add ((x10_1).toNat * 13)).off + 7, none⟩ = some (.int .i64 ((Y1 t_0 x10_1).f4.f1)) ∧ w'.cell? ⟨(d_0.add ((x10_1).toNat * 13)).block, (d_0.add ((x10_1).toNat * 13)).off + 8, none⟩ = some (.int .i64 ((Y1 t_0 x10_1).f4.f2)) ∧ w'.cell? ⟨(d_0.add ((x10_1).toNat * 13)).block, (d_0.add ((x10_1).toNat * 13)).off + 9, none⟩ = some (.int .i64 ((Y1 t_0 x10_1).f4.f3)) ∧ w'.cell? ⟨(d_0.add ((x10_1).toNat * 13)).block, (d_0.add ((x10_1).toNat * 13)).off + 10, none⟩ = some (.int .i64 ((Y1 t_0 x10_1).f4.f4)) ∧ w'.cell? ⟨(d_0.add ((x10_1).toNat * 13)).block, (d_0.add ((x10_1).toNat * 13)).off + 11, none⟩ = some (.int .i64 ((Y1 t_0 x10_1).f4.f5)) ∧ w'.cell? ⟨(d_0.add ((x10_1).toNat * 13)).block, (d_0.add ((x10_1).toNat * 13)).off + 12, none⟩ = some (.int .i64 ((Y1 t_0 x10_1).f4.f6))) (ds := []) #[false, false, false, false, false, false, false, false, false, false, false, false] (by kernel_rfl) rfl rfl ⟨(Y2 B_4.out 0).trans rfl, (Y2 B_4.out 1).trans rfl, m_0, m_7, m_6, m_5, m_9, m_8, m_2, m_1, m_4, m_a, m_c, m_3, m_b⟩ (fun hHeld => ?_); refine YO Yc.tab13 Yc.bits13 (fun HT_ HW_ => ?_)
                    generalize wr.drew = w59 at HO_7 HO_1019001 HO_1028001 B_0 B_2 B_3 B_4 HB m_0 m_7 m_c m_3 m_b m_6 m_5 m_9 m_8 m_2 m_1 m_4 m_a hHeld ⊢
                    refine pure_ (i := 1) (N := some 52) (v := ?_) (a' := ?_) #[false, true, false, false, false, false, false, false, false, false, false, false] rfl rfl (Y1Z HT_.out (by kernel_rfl)) (fun _ _ _ h => h) (Or.inl ⟨by rfl, ?_⟩) ?_ ?_
                    rotate_left
                    · intro w'
                      go_simp
                      with_reducible rfl
                    rotate_left
                    · simp only [Act.put, List.setIfInBounds_toArray, List.set_cons_zero, List.set_cons_succ, i64_w, i32_w]
                      rfl
                    refine pure_ (i := 2) (N := some 53) (v := ?_) (a' := ?_) #[false, true, true, false, false, false, false, false, false, false, false, false] rfl rfl (Y1Z HT_.out (by kernel_rfl)) (fun _ _ _ h => h) (Or.inl ⟨by rfl, ?_⟩) ?_ ?_
                    rotate_left
                    · intro w'
                      go_simp
                      with_reducible rfl
                    rotate_left
                    · simp only [Act.put, List.setIfInBounds_toArray, List.set_cons_zero, List.set_cons_succ, i64_w, i32_w]
                      rfl
                    refine pure_ (i := 3) (N := some 54) (v := ?_) (a' := ?_) #[false, true, true, true, false, false, false, false, false, false, false, false] rfl rfl (Y1Z HT_.out (by kernel_rfl)) (fun _ _ _ h => h) (Or.inl ⟨by rfl, ?_⟩) ?_ ?_
                    rotate_left
                    · intro w'
                      go_simp
                      with_reducible rfl
                    rotate_left
                    · simp only [Act.put, List.setIfInBounds_toArray, List.set_cons_zero, List.set_cons_succ, i64_w, i32_w]
                      rfl
                    refine take_ (i := 0) (N := some 51) (v := ?_) (a' := ?_) #[true, true, true, true, false, false, false, false, false, false, false, false] rfl rfl (Y42 HT_.out HW_.out (by kernel_rfl)) (fun _ _ _ h => h) (Or.inl ⟨by rfl, ?_⟩) hHeld ?_ ?_
                    rotate_left
                    · rintro w' ⟨s0, s1, s2, s3, s4, s5, s6, s7, s8, s9, s10, s11, s12, s13, s14⟩
                      go_simp
                      with_reducible rfl
                    rotate_left
                    · simp only [Act.put, List.setIfInBounds_toArray, List.set_cons_zero, List.set_cons_succ, i64_w, i32_w]
                      rfl
                    refine take_ (i := 4) (N := some 55) (v := ?_) (a' := ?_) #[true, true, true, true, true, false, false, false, false, false, false, false] rfl rfl (Y42 HT_.out HW_.out (by kernel_rfl)) (fun _ _ _ h => h) (Or.inl ⟨by rfl, ?_⟩) hHeld ?_ ?_
                    rotate_left
                    · rintro w' ⟨s0, s1, s2, s3, s4, s5, s6, s7, s8, s9, s10, s11, s12, s13, s14⟩
                      go_simp
                      with_reducible rfl
                    rotate_left
                    · simp only [Act.put, List.setIfInBounds_toArray, List.set_cons_zero, List.set_cons_succ, i64_w, i32_w]
                      rfl
                    refine join_ (σ := Value × Nat) 2 #[true, true, true, true, true, true, true, true, true, true, false, false] (fun s_ => [(56, .tuple #[.agg #[.int .i64 t_3, s_.1], .int .i64 t_8]), (11, .pointer (some ⟨s_.2, 0, none⟩)), (50, .tuple #[.agg #[.int .i64 t_3, s_.1], .int .i64 t_8]), (57, .agg #[.int .i64 t_3, s_.1]), (58, .int .i64 t_8)]) (fun s_ w' => (w'.cell? ⟨g_1, 0, none⟩ = some (.int .i64 x1028000_1) ∧ w'.cell? ⟨g_1, 1, none⟩ = some (.slice Ao58 x1028001_1.length co58) ∧ w'.cell? (d_0.add ((x10_1).toNat * 13)) = some (.int .i64 ((Y1 t_0 x10_1).f0.f0)) ∧ w'.cell? ⟨(d_0.add ((x10_1).toNat * 13)).block, (d_0.add ((x10_1).toNat * 13)).off + 1, none⟩ = some (.int .i64 ((Y1 t_0 x10_1).f0.f1)) ∧ w'.cell? ⟨(d_0.add ((x10_1).toNat * 13)).block, (d_0.add ((x10_1).toNat * 13)).off + 2, none⟩ = some (.int .i64 ((Y1 t_0 x10_1).f1)) ∧ w'.cell? ⟨(d_0.add ((x10_1).toNat * 13)).block, (d_0.add ((x10_1).toNat * 13)).off + 3, none⟩ = some (.int .i64 ((Y1 t_0 x10_1).f2.f0)) ∧ w'.cell? ⟨(d_0.add ((x10_1).toNat * 13)).block, (d_0.add ((x10_1).toNat * 13)).off + 4, none⟩ = some (.int .i64 ((Y1 t_0 x10_1).f2.f1)) ∧ w'.cell? ⟨(d_0.add ((x10_1).toNat * 13)).block, (d_0.add ((x10_1).toNat * 13)).off + 5, none⟩ = some (.bool ((Y1 t_0 x10_1).f3)) ∧ w'.cell? ⟨(d_0.add ((x10_1).toNat * 13)).block, (d_0.add ((x10_1).toNat * 13)).off + 6, none⟩ = some (.int .i64 ((Y1 t_0 x10_1).f4.f0)) ∧ w'.cell? ⟨(d_0.add ((x10_1).toNat * 13)).block, (d_0.add ((x10_1).toNat * 13)).off + 7, none⟩ = some (.int .i64 ((Y1 t_0 x10_1).f4.f1)) ∧ w'.cell? ⟨(d_0.add ((x10_1).toNat * 13)).block, (d_0.add ((x10_1).toNat * 13)).off + 8, none⟩ = some (.int .i64 ((Y1 t_0 x10_1).f4.f2)) ∧ w'.cell? ⟨(d_0.add ((x10_1).toNat * 13)).block, (d_0.add ((x10_1).toNat * 13)).off + 9, none⟩ = some (.int .i64 ((Y1 t_0 x10_1).f4.f3)) ∧ w'.cell? ⟨(d_0.add ((x10_1).toNat * 13)).block, (d_0.add ((x10_1).toNat * 13)).off + 10, none⟩ = some (.int .i64 ((Y1 t_0 x10_1).f4.f4)) ∧ w'.cell? ⟨(d_0.add ((x10_1).toNat * 13)).block, (d_0.add ((x10_1).toNat * 13)).off + 11, none⟩ = some (.int .i64 ((Y1 t_0 x10_1).f4.f5)) ∧ w'.cell? ⟨(d_0.add ((x10_1).toNat * 13)).block, (d_0.add ((x10_1).toNat * 13)).off + 12, none⟩ = some (.int .i64 ((Y1 t_0 x10_1).f4.f6))) ∧ (Kd.R k30 30 w' w.heap.size (fun k_ => some k_ ≠ (.slice Ao42 t_1.length co42 : Value).ownBlock ∧ some k_ ≠ (.slice (some d_0) t_0.length co57 : Value).ownBlock) s_.1 t_4) ∧ (Kd.R k30 30 w' w.heap.size (fun k_ => some k_ ≠ (s_.1 : Value).ownBlock ∧ some k_ ≠ (.slice (some d_0) t_0.length co57 : Value).ownBlock) (.slice Ao42 t_1.length co42) t_1) ∧ (OutR w w' A0_1 c0_1 l0_1 (.slice Ao58 x1028001_1.length co58) x1028001_1) ∧ (Kd.R k30 30 w' w.heap.size (fun k_ => some k_ ≠ (s_.1 : Value).ownBlock ∧ some k_ ≠ (.slice Ao42 t_1.length co42 : Value).ownBlock) (.slice (some d_0) t_0.length co57) t_0) ∧ (w'.heap[g_3]? = some (.cells #[.int .i64 a0_0, .slice A0_1 l0_1.length c0_1] 24 (0, 0))) ∧ (w'.heap[g_4]? = some (.cells #[.int .i64 a1_0, .slice A1_1 l1_1.length c1_1] 24 (0, 0))) ∧ (w'.heap[g_2]? = some (.cells #[.int .i64 t_2, .slice Ao42 t_1.length co42] 24 (0, 0))) ∧ (w'.heap[g_1]? = some (.cells #[.int .i64 x1028000_1, .slice Ao58 x1028001_1.length co58] 24 (0, 0))) ∧ (w'.heap[s_.2]? = some (.cells #[.int .i64 0, .slice none 0 0] 24 (0, 0))) ∧ (w.heap.size ≤ s_.2) ∧ (w.heap.size ≤ s_.2) ∧ (g_3 ≠ s_.2) ∧ (s_.2 ≠ g_3) ∧ (g_4 ≠ s_.2) ∧ (s_.2 ≠ g_4) ∧ (g_2 ≠ s_.2) ∧ (s_.2 ≠ g_2) ∧ (g_1 ≠ s_.2) ∧ (s_.2 ≠ g_1) ∧ (Below w.heap.size w w')) ?_ ?_
                    rotate_left
                    · intro hCont
                      refine two_ (i := 5) (j := 9) (Ni := some 56) (Nj := some 11) #[true, true, true, true, true, true, false, false, false, false, false, false] #[true, true, true, true, true, false, false, false, false, true, false, false] rfl rfl rfl rfl (Y1w HT_.out (by kernel_rfl)) (by decide) (by decide) (fun K hK => ?_) (fun K hK => ?_)
                      · skip
                        refine goes_ Try.func19 (by kernel_rfl) rfl #[.agg #[.int .i64 x1028000_1, .slice Ao58 x1028001_1.length co58], .agg #[.int .i64 ((Y1 t_0 x10_1).f0.f0), .int .i64 ((Y1 t_0 x10_1).f0.f1), .int .i64 ((Y1 t_0 x10_1).f1), .int .i64 ((Y1 t_0 x10_1).f2.f0), .int .i64 ((Y1 t_0 x10_1).f2.f1), .bool ((Y1 t_0 x10_1).f3), .int .i64 ((Y1 t_0 x10_1).f4.f0), .int .i64 ((Y1 t_0 x10_1).f4.f1), .int .i64 ((Y1 t_0 x10_1).f4.f2), .int .i64 ((Y1 t_0 x10_1).f4.f3), .int .i64 ((Y1 t_0 x10_1).f4.f4), .int .i64 ((Y1 t_0 x10_1).f4.f5), .int .i64 ((Y1 t_0 x10_1).f4.f6)]] (by rfl) rfl rfl (by (try simp only [List.map_toArray, List.map_cons, List.map_nil]); first | done | rfl | (simp only [List.length_drop, List.length_take]; rfl)) ?_
                        with_reducible refine (YJ.calls x1028000_1 _ _ x1028001_1 ((Y1 t_0 x10_1).f0.f0) ((Y1 t_0 x10_1).f0.f1) ((Y1 t_0 x10_1).f1) ((Y1 t_0 x10_1).f2.f0) ((Y1 t_0 x10_1).f2.f1) ((Y1 t_0 x10_1).f3) ((Y1 t_0 x10_1).f4.f0) ((Y1 t_0 x10_1).f4.f1) ((Y1 t_0 x10_1).f4.f2) ((Y1 t_0 x10_1).f4.f3) ((Y1 t_0 x10_1).f4.f4) ((Y1 t_0 x10_1).f4.f5) ((Y1 t_0 x10_1).f4.f6) t_3 t_4 t_8 _ ?side1 ?side2 A55.out).mono ?_
                        (case side1 => repeat (first | exact (OutR.reads HR0_1.out HC0_1.out HB.out HO_1028001.out).2 | (with_reducible refine Kd.C_alloc ?_ _) | (with_reducible refine Kd.C_drewN ?_ _) | (with_reducible refine Kd.C_drew ?_)))
                        (case side2 => exact (OutR.reads HR0_1.out HC0_1.out HB.out HO_1028001.out).1)
                        rintro e w60 ⟨v_0, rfl, ho0, hb⟩
                        have HS2_ := (hb.cell (World.block_lt_of_cell? _ _ (hHeld.2.2.1))).trans (hHeld.2.2.1)
                        have HS3_ := (hb.cell (World.block_lt_of_cell? _ _ (hHeld.2.2.2.1))).trans (hHeld.2.2.2.1)
                        have HS4_ := (hb.cell (World.block_lt_of_cell? _ _ (hHeld.2.2.2.2.1))).trans (hHeld.2.2.2.2.1)
                        have HS5_ := (hb.cell (World.block_lt_of_cell? _ _ (hHeld.2.2.2.2.2.1))).trans (hHeld.2.2.2.2.2.1)
                        have HS6_ := (hb.cell (World.block_lt_of_cell? _ _ (hHeld.2.2.2.2.2.2.1))).trans (hHeld.2.2.2.2.2.2.1)
                        have HS7_ := (hb.cell (World.block_lt_of_cell? _ _ (hHeld.2.2.2.2.2.2.2.1))).trans (hHeld.2.2.2.2.2.2.2.1)
                        have HS8_ := (hb.cell (World.block_lt_of_cell? _ _ (hHeld.2.2.2.2.2.2.2.2.1))).trans (hHeld.2.2.2.2.2.2.2.2.1)
                        have HS9_ := (hb.cell (World.block_lt_of_cell? _ _ (hHeld.2.2.2.2.2.2.2.2.2.1))).trans (hHeld.2.2.2.2.2.2.2.2.2.1)
                        have HS10_ := (hb.cell (World.block_lt_of_cell? _ _ (hHeld.2.2.2.2.2.2.2.2.2.2.1))).trans (hHeld.2.2.2.2.2.2.2.2.2.2.1)
                        have HS11_ := (hb.cell (World.block_lt_of_cell? _ _ (hHeld.2.2.2.2.2.2.2.2.2.2.2.1))).trans (hHeld.2.2.2.2.2.2.2.2.2.2.2.1)
                        have HS12_ := (hb.cell (World.block_lt_of_cell? _ _ (hHeld.2.2.2.2.2.2.2.2.2.2.2.2.1))).trans (hHeld.2.2.2.2.2.2.2.2.2.2.2.2.1)
                        have HS13_ := (hb.cell (World.block_lt_of_cell? _ _ (hHeld.2.2.2.2.2.2.2.2.2.2.2.2.2.1))).trans (hHeld.2.2.2.2.2.2.2.2.2.2.2.2.2.1)
                        have HS14_ := (hb.cell (World.block_lt_of_cell? _ _ (hHeld.2.2.2.2.2.2.2.2.2.2.2.2.2.2))).trans (hHeld.2.2.2.2.2.2.2.2.2.2.2.2.2.2)
                        refine ⟨_, rfl, ?_⟩
                        have n0_ := Y0.mk (Kd.R_elder' (Kd.rU HO_7.out) (Kd.R_base ho0) hb)
                        have n1_ := Y0.mk (Kd.R_elder' (Kd.rU HO_1019001.out) (Kd.R_base ho0) hb)
                        have n2_ := Y0.mk (OutR.map (fun h_ => Kd.R_below (Kd.rU h_) hb) HO_1028001.out)
                        have n3_ := Y0.mk (Kd.R_lower (Kd.R_new' (Kd.R_new' ho0 (Kd.R_lt (Kd.rU HO_7.out))) (Kd.R_lt (Kd.rU HO_1019001.out))) (Yh (hU HB.out)))
                        have n4_ := Y0.mk (Y3 (bU B_0.out) hb)
                        have n5_ := Y0.mk (Y3 (bU B_2.out) hb)
                        have n6_ := Y0.mk (Y3 (bU B_3.out) hb)
                        have n7_ := Y0.mk (Y3 (bU B_4.out) hb)
                        have n8_ := Y0.mk (Y5 (hU HB.out) hb)
                        clear HO_7
                        clear HO_1019001
                        clear HO_1028001
                        clear B_0
                        clear B_2
                        clear B_3
                        clear B_4
                        clear HB
                        have HO_7 := n0_
                        have HO_1019001 := n1_
                        have HO_1028001 := n2_
                        have O_3 := n3_
                        have B_0 := n4_
                        have B_2 := n5_
                        have B_3 := n6_
                        have B_4 := n7_
                        have HB := n8_
                        clear n0_ n1_ n2_ n3_ n4_ n5_ n6_ n7_ n8_
                        (try clear hb)
                        (try clear hb2)
                        (try clear hk)
                        (try clear hi)
                        (try clear ho0)
                        refine hK.out _ _ ⟨(Y2 B_4.out 0).trans rfl, (Y2 B_4.out 1).trans rfl, HS2_, HS3_, HS4_, HS5_, HS6_, HS7_, HS8_, HS9_, HS10_, HS11_, HS12_, HS13_, HS14_⟩ (fun hHeld => ?_)
                        clear hK K
                        refine norm_ (a' := ?_) ?_ ?_
                        rotate_left
                        · show Act.put _ (some 56) _ = _
                          simp only [Act.put, List.setIfInBounds_toArray, List.set_cons_zero, List.set_cons_succ, i64_w, i32_w]
                          rfl
                        refine pure_ (i := 6) (N := some 50) (v := ?_) (a' := ?_) #[true, true, true, true, true, true, true, false, false, false, false, false] rfl rfl (Y1Z HT_.out (by kernel_rfl)) (fun _ _ _ h => h) (Or.inl ⟨by rfl, ?_⟩) ?_ ?_
                        rotate_left
                        · intro w'
                          go_simp
                          with_reducible rfl
                        rotate_left
                        · simp only [Act.put, List.setIfInBounds_toArray, List.set_cons_zero, List.set_cons_succ, i64_w, i32_w]
                          rfl
                        refine pure_ (i := 7) (N := some 57) (v := ?_) (a' := ?_) #[true, true, true, true, true, true, true, true, false, false, false, false] rfl rfl (Y1Z HT_.out (by kernel_rfl)) (fun _ _ _ h => h) (Or.inl ⟨by rfl, ?_⟩) ?_ ?_
                        rotate_left
                        · intro w'
                          go_simp
                          with_reducible rfl
                        rotate_left
                        · simp only [Act.put, List.setIfInBounds_toArray, List.set_cons_zero, List.set_cons_succ, i64_w, i32_w]
                          rfl
                        refine pure_ (i := 8) (N := some 58) (v := ?_) (a' := ?_) #[true, true, true, true, true, true, true, true, true, false, false, false] rfl rfl (Y1Z HT_.out (by kernel_rfl)) (fun _ _ _ h => h) (Or.inl ⟨by rfl, ?_⟩) ?_ ?_
                        rotate_left
                        · intro w'
                          go_simp
                          with_reducible rfl
                        rotate_left
                        · simp only [Act.put, List.setIfInBounds_toArray, List.set_cons_zero, List.set_cons_succ, i64_w, i32_w]
                          rfl
                        refine one_ (i := 9) (N := some 11) #[true, true, true, true, true, true, true, true, true, true, false, false] rfl rfl (YH HT_.out (by kernel_rfl)) (by decide) (fun K hK => ?_)
                        refine YY ?hg (N := 11) ?hd (cs := #[.int .i64 0, .slice none 0 0]) (t := 24) ?hr ?_; (case hd => rfl); (case hg => rfl); (case hr => first | (go_simp; done) | (go_simp; rfl))
                        intro g_0 hg w61 hbox hb
                        have HS2_ := (hb.cell (World.block_lt_of_cell? _ _ (hHeld.2.2.1))).trans (hHeld.2.2.1)
                        have HS3_ := (hb.cell (World.block_lt_of_cell? _ _ (hHeld.2.2.2.1))).trans (hHeld.2.2.2.1)
                        have HS4_ := (hb.cell (World.block_lt_of_cell? _ _ (hHeld.2.2.2.2.1))).trans (hHeld.2.2.2.2.1)
                        have HS5_ := (hb.cell (World.block_lt_of_cell? _ _ (hHeld.2.2.2.2.2.1))).trans (hHeld.2.2.2.2.2.1)
                        have HS6_ := (hb.cell (World.block_lt_of_cell? _ _ (hHeld.2.2.2.2.2.2.1))).trans (hHeld.2.2.2.2.2.2.1)
                        have HS7_ := (hb.cell (World.block_lt_of_cell? _ _ (hHeld.2.2.2.2.2.2.2.1))).trans (hHeld.2.2.2.2.2.2.2.1)
                        have HS8_ := (hb.cell (World.block_lt_of_cell? _ _ (hHeld.2.2.2.2.2.2.2.2.1))).trans (hHeld.2.2.2.2.2.2.2.2.1)
                        have HS9_ := (hb.cell (World.block_lt_of_cell? _ _ (hHeld.2.2.2.2.2.2.2.2.2.1))).trans (hHeld.2.2.2.2.2.2.2.2.2.1)
                        have HS10_ := (hb.cell (World.block_lt_of_cell? _ _ (hHeld.2.2.2.2.2.2.2.2.2.2.1))).trans (hHeld.2.2.2.2.2.2.2.2.2.2.1)
                        have HS11_ := (hb.cell (World.block_lt_of_cell? _ _ (hHeld.2.2.2.2.2.2.2.2.2.2.2.1))).trans (hHeld.2.2.2.2.2.2.2.2.2.2.2.1)
                        have HS12_ := (hb.cell (World.block_lt_of_cell? _ _ (hHeld.2.2.2.2.2.2.2.2.2.2.2.2.1))).trans (hHeld.2.2.2.2.2.2.2.2.2.2.2.2.1)
                        have HS13_ := (hb.cell (World.block_lt_of_cell? _ _ (hHeld.2.2.2.2.2.2.2.2.2.2.2.2.2.1))).trans (hHeld.2.2.2.2.2.2.2.2.2.2.2.2.2.1)
                        have HS14_ := (hb.cell (World.block_lt_of_cell? _ _ (hHeld.2.2.2.2.2.2.2.2.2.2.2.2.2.2))).trans (hHeld.2.2.2.2.2.2.2.2.2.2.2.2.2.2)
                        have n0_ := Y0.mk (Kd.R_below (Kd.rU HO_7.out) hb)
                        have n1_ := Y0.mk (Kd.R_below (Kd.rU HO_1019001.out) hb)
                        have n2_ := Y0.mk (OutR.map (fun h_ => Kd.R_below (Kd.rU h_) hb) HO_1028001.out)
                        have n3_ := Y0.mk (Kd.R_below (Kd.rU O_3.out) hb)
                        have n4_ := Y0.mk (Y3 (bU B_0.out) hb)
                        have n5_ := Y0.mk (Y3 (bU B_2.out) hb)
                        have n6_ := Y0.mk (Y3 (bU B_3.out) hb)
                        have n7_ := Y0.mk (Y3 (bU B_4.out) hb)
                        have n8_ := Y0.mk (Y5 (hU HB.out) hb)
                        have n9_ := Y0.mk (hbox)
                        have n10_ := gE hg HB
                        have n11_ := gE hg HB
                        have n12_ := gL hg B_0
                        have n13_ := gG hg B_0
                        have n14_ := gL hg B_2
                        have n15_ := gG hg B_2
                        have n16_ := gL hg B_3
                        have n17_ := gG hg B_3
                        have n18_ := gL hg B_4
                        have n19_ := gG hg B_4
                        clear HO_7
                        clear HO_1019001
                        clear HO_1028001
                        clear O_3
                        clear B_0
                        clear B_2
                        clear B_3
                        clear B_4
                        clear HB
                        have HO_7 := n0_
                        have HO_1019001 := n1_
                        have HO_1028001 := n2_
                        have O_3 := n3_
                        have B_0 := n4_
                        have B_2 := n5_
                        have B_3 := n6_
                        have B_4 := n7_
                        have HB := n8_
                        have B_1 := n9_
                        have W_0 := n10_
                        have G_0 := n11_
                        have N_3 := n12_
                        have N_8 := n13_
                        have N_2 := n14_
                        have N_b := n15_
                        have N_1 := n16_
                        have N_a := n17_
                        have N_0 := n18_
                        have N_9 := n19_
                        clear n0_ n1_ n2_ n3_ n4_ n5_ n6_ n7_ n8_ n9_ n10_ n11_ n12_ n13_ n14_ n15_ n16_ n17_ n18_ n19_
                        clear hb hbox hg
                        refine hK.out _ _ ⟨(Y2 B_4.out 0).trans rfl, (Y2 B_4.out 1).trans rfl, HS2_, HS3_, HS4_, HS5_, HS6_, HS7_, HS8_, HS9_, HS10_, HS11_, HS12_, HS13_, HS14_⟩ (fun hHeld => ?_)
                        clear hK K
                        refine norm_ (a' := ?_) ?_ ?_
                        rotate_left
                        · show Act.put _ (some 11) _ = _
                          simp only [Act.put, List.setIfInBounds_toArray, List.set_cons_zero, List.set_cons_succ, i64_w, i32_w]
                          rfl
                        exact norm_ (by simp only [YB, Act.put, List.setIfInBounds_toArray, List.set_cons_zero, List.set_cons_succ]) (hCont (v_0, g_0) _ ⟨hHeld, (by (with_reducible repeat (first | apply Kd.R_alloc | apply Kd.R_drewN | apply Kd.R_drew)); exact Kd.R_mono O_3.out (fun _ hk => by first | exact ⟨hk.1.2, ⟨hk.2, hk.1.1.2⟩⟩ | (revert hk; (try simp only [and_imp]); intros; (repeat' apply And.intro) <;> first | assumption | trivial))), (by (with_reducible repeat (first | apply Kd.R_alloc | apply Kd.R_drewN | apply Kd.R_drew)); exact Kd.R_mono HO_1019001.out (fun _ hk => by first | exact ⟨hk.2, ⟨hk.1.2, hk.1.1⟩⟩ | (revert hk; (try simp only [and_imp]); intros; (repeat' apply And.intro) <;> first | assumption | trivial))), (OutR.map (fun h_ => Kd.rU h_) HO_1028001.out), (by (with_reducible repeat (first | apply Kd.R_alloc | apply Kd.R_drewN | apply Kd.R_drew)); exact Kd.R_mono HO_7.out (fun _ hk => by first | exact ⟨hk.2, ⟨hk.1.1, hk.1.2⟩⟩ | (revert hk; (try simp only [and_imp]); intros; (repeat' apply And.intro) <;> first | assumption | trivial))), (bU B_0.out), (bU B_2.out), (bU B_3.out), (bU B_4.out), (bU B_1.out), W_0.out, G_0.out, N_3.out, N_8.out, N_2.out, N_b.out, N_1.out, N_a.out, N_0.out, N_9.out, (hU HB.out)⟩)
                      · skip
                        refine YY ?hg (N := 11) ?hd (cs := #[.int .i64 0, .slice none 0 0]) (t := 24) ?hr ?_; (case hd => rfl); (case hg => rfl); (case hr => first | (go_simp; done) | (go_simp; rfl))
                        intro g_0 hg w60 hbox hb
                        have HS2_ := (hb.cell (World.block_lt_of_cell? _ _ (hHeld.2.2.1))).trans (hHeld.2.2.1)
                        have HS3_ := (hb.cell (World.block_lt_of_cell? _ _ (hHeld.2.2.2.1))).trans (hHeld.2.2.2.1)
                        have HS4_ := (hb.cell (World.block_lt_of_cell? _ _ (hHeld.2.2.2.2.1))).trans (hHeld.2.2.2.2.1)
                        have HS5_ := (hb.cell (World.block_lt_of_cell? _ _ (hHeld.2.2.2.2.2.1))).trans (hHeld.2.2.2.2.2.1)
                        have HS6_ := (hb.cell (World.block_lt_of_cell? _ _ (hHeld.2.2.2.2.2.2.1))).trans (hHeld.2.2.2.2.2.2.1)
                        have HS7_ := (hb.cell (World.block_lt_of_cell? _ _ (hHeld.2.2.2.2.2.2.2.1))).trans (hHeld.2.2.2.2.2.2.2.1)
                        have HS8_ := (hb.cell (World.block_lt_of_cell? _ _ (hHeld.2.2.2.2.2.2.2.2.1))).trans (hHeld.2.2.2.2.2.2.2.2.1)
                        have HS9_ := (hb.cell (World.block_lt_of_cell? _ _ (hHeld.2.2.2.2.2.2.2.2.2.1))).trans (hHeld.2.2.2.2.2.2.2.2.2.1)
                        have HS10_ := (hb.cell (World.block_lt_of_cell? _ _ (hHeld.2.2.2.2.2.2.2.2.2.2.1))).trans (hHeld.2.2.2.2.2.2.2.2.2.2.1)
                        have HS11_ := (hb.cell (World.block_lt_of_cell? _ _ (hHeld.2.2.2.2.2.2.2.2.2.2.2.1))).trans (hHeld.2.2.2.2.2.2.2.2.2.2.2.1)
                        have HS12_ := (hb.cell (World.block_lt_of_cell? _ _ (hHeld.2.2.2.2.2.2.2.2.2.2.2.2.1))).trans (hHeld.2.2.2.2.2.2.2.2.2.2.2.2.1)
                        have HS13_ := (hb.cell (World.block_lt_of_cell? _ _ (hHeld.2.2.2.2.2.2.2.2.2.2.2.2.2.1))).trans (hHeld.2.2.2.2.2.2.2.2.2.2.2.2.2.1)
                        have HS14_ := (hb.cell (World.block_lt_of_cell? _ _ (hHeld.2.2.2.2.2.2.2.2.2.2.2.2.2.2))).trans (hHeld.2.2.2.2.2.2.2.2.2.2.2.2.2.2)
                        have n0_ := Y0.mk (Kd.R_below (Kd.rU HO_7.out) hb)
                        have n1_ := Y0.mk (Kd.R_below (Kd.rU HO_1019001.out) hb)
                        have n2_ := Y0.mk (OutR.map (fun h_ => Kd.R_below (Kd.rU h_) hb) HO_1028001.out)
                        have n3_ := Y0.mk (Y3 (bU B_0.out) hb)
                        have n4_ := Y0.mk (Y3 (bU B_2.out) hb)
                        have n5_ := Y0.mk (Y3 (bU B_3.out) hb)
                        have n6_ := Y0.mk (Y3 (bU B_4.out) hb)
                        have n7_ := Y0.mk (Y5 (hU HB.out) hb)
                        have n8_ := Y0.mk (hbox)
                        have n9_ := gE hg HB
                        have n10_ := gE hg HB
                        have n11_ := gL hg B_0
                        have n12_ := gG hg B_0
                        have n13_ := gL hg B_2
                        have n14_ := gG hg B_2
                        have n15_ := gL hg B_3
                        have n16_ := gG hg B_3
                        have n17_ := gL hg B_4
                        have n18_ := gG hg B_4
                        clear HO_7
                        clear HO_1019001
                        clear HO_1028001
                        clear B_0
                        clear B_2
                        clear B_3
                        clear B_4
                        clear HB
                        have HO_7 := n0_
                        have HO_1019001 := n1_
                        have HO_1028001 := n2_
                        have B_0 := n3_
                        have B_2 := n4_
                        have B_3 := n5_
                        have B_4 := n6_
                        have HB := n7_
                        have B_1 := n8_
                        have W_0 := n9_
                        have G_0 := n10_
                        have N_3 := n11_
                        have N_8 := n12_
                        have N_2 := n13_
                        have N_b := n14_
                        have N_1 := n15_
                        have N_a := n16_
                        have N_0 := n17_
                        have N_9 := n18_
                        clear n0_ n1_ n2_ n3_ n4_ n5_ n6_ n7_ n8_ n9_ n10_ n11_ n12_ n13_ n14_ n15_ n16_ n17_ n18_
                        clear hb hbox hg
                        refine hK.out _ _ ⟨(Y2 B_4.out 0).trans rfl, (Y2 B_4.out 1).trans rfl, HS2_, HS3_, HS4_, HS5_, HS6_, HS7_, HS8_, HS9_, HS10_, HS11_, HS12_, HS13_, HS14_⟩ (fun hHeld => ?_)
                        clear hK K
                        refine norm_ (a' := ?_) ?_ ?_
                        rotate_left
                        · show Act.put _ (some 11) _ = _
                          simp only [Act.put, List.setIfInBounds_toArray, List.set_cons_zero, List.set_cons_succ, i64_w, i32_w]
                          rfl
                        refine one_ (i := 5) (N := some 56) #[true, true, true, true, true, true, false, false, false, true, false, false] rfl rfl (YH HT_.out (by kernel_rfl)) (by decide) (fun K hK => ?_)
                        refine goes_ Try.func19 (by kernel_rfl) rfl #[.agg #[.int .i64 x1028000_1, .slice Ao58 x1028001_1.length co58], .agg #[.int .i64 ((Y1 t_0 x10_1).f0.f0), .int .i64 ((Y1 t_0 x10_1).f0.f1), .int .i64 ((Y1 t_0 x10_1).f1), .int .i64 ((Y1 t_0 x10_1).f2.f0), .int .i64 ((Y1 t_0 x10_1).f2.f1), .bool ((Y1 t_0 x10_1).f3), .int .i64 ((Y1 t_0 x10_1).f4.f0), .int .i64 ((Y1 t_0 x10_1).f4.f1), .int .i64 ((Y1 t_0 x10_1).f4.f2), .int .i64 ((Y1 t_0 x10_1).f4.f3), .int .i64 ((Y1 t_0 x10_1).f4.f4), .int .i64 ((Y1 t_0 x10_1).f4.f5), .int .i64 ((Y1 t_0 x10_1).f4.f6)]] (by rfl) rfl rfl (by (try simp only [List.map_toArray, List.map_cons, List.map_nil]); first | done | rfl | (simp only [List.length_drop, List.length_take]; rfl)) ?_
                        with_reducible refine (YJ.calls x1028000_1 _ _ x1028001_1 ((Y1 t_0 x10_1).f0.f0) ((Y1 t_0 x10_1).f0.f1) ((Y1 t_0 x10_1).f1) ((Y1 t_0 x10_1).f2.f0) ((Y1 t_0 x10_1).f2.f1) ((Y1 t_0 x10_1).f3) ((Y1 t_0 x10_1).f4.f0) ((Y1 t_0 x10_1).f4.f1) ((Y1 t_0 x10_1).f4.f2) ((Y1 t_0 x10_1).f4.f3) ((Y1 t_0 x10_1).f4.f4) ((Y1 t_0 x10_1).f4.f5) ((Y1 t_0 x10_1).f4.f6) t_3 t_4 t_8 _ ?side1 ?side2 A55.out).mono ?_
                        (case side1 => repeat (first | exact (OutR.reads HR0_1.out HC0_1.out HB.out HO_1028001.out).2 | (with_reducible refine Kd.C_alloc ?_ _) | (with_reducible refine Kd.C_drewN ?_ _) | (with_reducible refine Kd.C_drew ?_)))
                        (case side2 => exact (OutR.reads HR0_1.out HC0_1.out HB.out HO_1028001.out).1)
                        rintro e w61 ⟨v_0, rfl, ho0, hb⟩
                        have HS2_ := (hb.cell (World.block_lt_of_cell? _ _ (hHeld.2.2.1))).trans (hHeld.2.2.1)
                        have HS3_ := (hb.cell (World.block_lt_of_cell? _ _ (hHeld.2.2.2.1))).trans (hHeld.2.2.2.1)
                        have HS4_ := (hb.cell (World.block_lt_of_cell? _ _ (hHeld.2.2.2.2.1))).trans (hHeld.2.2.2.2.1)
                        have HS5_ := (hb.cell (World.block_lt_of_cell? _ _ (hHeld.2.2.2.2.2.1))).trans (hHeld.2.2.2.2.2.1)
                        have HS6_ := (hb.cell (World.block_lt_of_cell? _ _ (hHeld.2.2.2.2.2.2.1))).trans (hHeld.2.2.2.2.2.2.1)
                        have HS7_ := (hb.cell (World.block_lt_of_cell? _ _ (hHeld.2.2.2.2.2.2.2.1))).trans (hHeld.2.2.2.2.2.2.2.1)
                        have HS8_ := (hb.cell (World.block_lt_of_cell? _ _ (hHeld.2.2.2.2.2.2.2.2.1))).trans (hHeld.2.2.2.2.2.2.2.2.1)
                        have HS9_ := (hb.cell (World.block_lt_of_cell? _ _ (hHeld.2.2.2.2.2.2.2.2.2.1))).trans (hHeld.2.2.2.2.2.2.2.2.2.1)
                        have HS10_ := (hb.cell (World.block_lt_of_cell? _ _ (hHeld.2.2.2.2.2.2.2.2.2.2.1))).trans (hHeld.2.2.2.2.2.2.2.2.2.2.1)
                        have HS11_ := (hb.cell (World.block_lt_of_cell? _ _ (hHeld.2.2.2.2.2.2.2.2.2.2.2.1))).trans (hHeld.2.2.2.2.2.2.2.2.2.2.2.1)
                        have HS12_ := (hb.cell (World.block_lt_of_cell? _ _ (hHeld.2.2.2.2.2.2.2.2.2.2.2.2.1))).trans (hHeld.2.2.2.2.2.2.2.2.2.2.2.2.1)
                        have HS13_ := (hb.cell (World.block_lt_of_cell? _ _ (hHeld.2.2.2.2.2.2.2.2.2.2.2.2.2.1))).trans (hHeld.2.2.2.2.2.2.2.2.2.2.2.2.2.1)
                        have HS14_ := (hb.cell (World.block_lt_of_cell? _ _ (hHeld.2.2.2.2.2.2.2.2.2.2.2.2.2.2))).trans (hHeld.2.2.2.2.2.2.2.2.2.2.2.2.2.2)
                        refine ⟨_, rfl, ?_⟩
                        have n0_ := Y0.mk (Kd.R_elder' (Kd.rU HO_7.out) (Kd.R_base ho0) hb)
                        have n1_ := Y0.mk (Kd.R_elder' (Kd.rU HO_1019001.out) (Kd.R_base ho0) hb)
                        have n2_ := Y0.mk (OutR.map (fun h_ => Kd.R_below (Kd.rU h_) hb) HO_1028001.out)
                        have n3_ := Y0.mk (Kd.R_lower (Kd.R_new' (Kd.R_new' ho0 (Kd.R_lt (Kd.rU HO_7.out))) (Kd.R_lt (Kd.rU HO_1019001.out))) (Yh (hU HB.out)))
                        have n4_ := Y0.mk (Y3 (bU B_0.out) hb)
                        have n5_ := Y0.mk (Y3 (bU B_2.out) hb)
                        have n6_ := Y0.mk (Y3 (bU B_3.out) hb)
                        have n7_ := Y0.mk (Y3 (bU B_4.out) hb)
                        have n8_ := Y0.mk (Y3 (bU B_1.out) hb)
                        have n9_ := Y0.mk (Y5 (hU HB.out) hb)
                        clear HO_7
                        clear HO_1019001
                        clear HO_1028001
                        clear B_0
                        clear B_2
                        clear B_3
                        clear B_4
                        clear B_1
                        clear HB
                        have HO_7 := n0_
                        have HO_1019001 := n1_
                        have HO_1028001 := n2_
                        have O_3 := n3_
                        have B_0 := n4_
                        have B_2 := n5_
                        have B_3 := n6_
                        have B_4 := n7_
                        have B_1 := n8_
                        have HB := n9_
                        clear n0_ n1_ n2_ n3_ n4_ n5_ n6_ n7_ n8_ n9_
                        (try clear hb)
                        (try clear hb2)
                        (try clear hk)
                        (try clear hi)
                        (try clear ho0)
                        refine hK.out _ _ ⟨(Y2 B_4.out 0).trans rfl, (Y2 B_4.out 1).trans rfl, HS2_, HS3_, HS4_, HS5_, HS6_, HS7_, HS8_, HS9_, HS10_, HS11_, HS12_, HS13_, HS14_⟩ (fun hHeld => ?_)
                        clear hK K
                        refine norm_ (a' := ?_) ?_ ?_
                        rotate_left
                        · show Act.put _ (some 56) _ = _
                          simp only [Act.put, List.setIfInBounds_toArray, List.set_cons_zero, List.set_cons_succ, i64_w, i32_w]
                          rfl
                        refine pure_ (i := 6) (N := some 50) (v := ?_) (a' := ?_) #[true, true, true, true, true, true, true, false, false, true, false, false] rfl rfl (Y1Z HT_.out (by kernel_rfl)) (fun _ _ _ h => h) (Or.inl ⟨by rfl, ?_⟩) ?_ ?_
                        rotate_left
                        · intro w'
                          go_simp
                          with_reducible rfl
                        rotate_left
                        · simp only [Act.put, List.setIfInBounds_toArray, List.set_cons_zero, List.set_cons_succ, i64_w, i32_w]
                          rfl
                        refine pure_ (i := 7) (N := some 57) (v := ?_) (a' := ?_) #[true, true, true, true, true, true, true, true, false, true, false, false] rfl rfl (Y1Z HT_.out (by kernel_rfl)) (fun _ _ _ h => h) (Or.inl ⟨by rfl, ?_⟩) ?_ ?_
                        rotate_left
                        · intro w'
                          go_simp
                          with_reducible rfl
                        rotate_left
                        · simp only [Act.put, List.setIfInBounds_toArray, List.set_cons_zero, List.set_cons_succ, i64_w, i32_w]
                          rfl
                        refine pure_ (i := 8) (N := some 58) (v := ?_) (a' := ?_) #[true, true, true, true, true, true, true, true, true, true, false, false] rfl rfl (Y1Z HT_.out (by kernel_rfl)) (fun _ _ _ h => h) (Or.inl ⟨by rfl, ?_⟩) ?_ ?_
                        rotate_left
                        · intro w'
                          go_simp
                          with_reducible rfl
                        rotate_left
                        · simp only [Act.put, List.setIfInBounds_toArray, List.set_cons_zero, List.set_cons_succ, i64_w, i32_w]
                          rfl
                        exact norm_ (by simp only [YB, Act.put, List.setIfInBounds_toArray, List.set_cons_zero, List.set_cons_succ]) (hCont (v_0, g_0) _ ⟨hHeld, (by (with_reducible repeat (first | apply Kd.R_alloc | apply Kd.R_drewN | apply Kd.R_drew)); exact Kd.R_mono O_3.out (fun _ hk => by first | exact ⟨hk.1.2, ⟨hk.2, hk.1.1.2⟩⟩ | (revert hk; (try simp only [and_imp]); intros; (repeat' apply And.intro) <;> first | assumption | trivial))), (by (with_reducible repeat (first | apply Kd.R_alloc | apply Kd.R_drewN | apply Kd.R_drew)); exact Kd.R_mono HO_1019001.out (fun _ hk => by first | exact ⟨hk.2, ⟨hk.1.2, hk.1.1⟩⟩ | (revert hk; (try simp only [and_imp]); intros; (repeat' apply And.intro) <;> first | assumption | trivial))), (OutR.map (fun h_ => Kd.rU h_) HO_1028001.out), (by (with_reducible repeat (first | apply Kd.R_alloc | apply Kd.R_drewN | apply Kd.R_drew)); exact Kd.R_mono HO_7.out (fun _ hk => by first | exact ⟨hk.2, ⟨hk.1.1, hk.1.2⟩⟩ | (revert hk; (try simp only [and_imp]); intros; (repeat' apply And.intro) <;> first | assumption | trivial))), (bU B_0.out), (bU B_2.out), (bU B_3.out), (bU B_4.out), (bU B_1.out), W_0.out, G_0.out, N_3.out, N_8.out, N_2.out, N_b.out, N_1.out, N_a.out, N_0.out, N_9.out, (hU HB.out)⟩)
                    rintro ⟨v_0, g_0⟩ w62 ⟨hS_, h0_, h1_, h2_, h3_, h4_, h5_, h6_, h7_, h8_, h9_, h10_, h11_, h12_, h13_, h14_, h15_, h16_, h17_, h18_, h19_⟩
                    have n0_ : Y0 (Kd.R k30 30 w62 w.heap.size (fun k_ => some k_ ≠ (.slice Ao42 t_1.length co42 : Value).ownBlock ∧ some k_ ≠ (.slice (some d_0) t_0.length co57 : Value).ownBlock) v_0 t_4) := ⟨h0_⟩
                    have n1_ : Y0 (Kd.R k30 30 w62 w.heap.size (fun k_ => some k_ ≠ (v_0 : Value).ownBlock ∧ some k_ ≠ (.slice (some d_0) t_0.length co57 : Value).ownBlock) (.slice Ao42 t_1.length co42) t_1) := ⟨h1_⟩
                    have n2_ : Y0 (OutR w w62 A0_1 c0_1 l0_1 (.slice Ao58 x1028001_1.length co58) x1028001_1) := ⟨h2_⟩
                    have n3_ : Y0 (Kd.R k30 30 w62 w.heap.size (fun k_ => some k_ ≠ (v_0 : Value).ownBlock ∧ some k_ ≠ (.slice Ao42 t_1.length co42 : Value).ownBlock) (.slice (some d_0) t_0.length co57) t_0) := ⟨h3_⟩
                    have n4_ : Y0 (w62.heap[g_3]? = some (.cells #[.int .i64 a0_0, .slice A0_1 l0_1.length c0_1] 24 (0, 0))) := ⟨h4_⟩
                    have n5_ : Y0 (w62.heap[g_4]? = some (.cells #[.int .i64 a1_0, .slice A1_1 l1_1.length c1_1] 24 (0, 0))) := ⟨h5_⟩
                    have n6_ : Y0 (w62.heap[g_2]? = some (.cells #[.int .i64 t_2, .slice Ao42 t_1.length co42] 24 (0, 0))) := ⟨h6_⟩
                    have n7_ : Y0 (w62.heap[g_1]? = some (.cells #[.int .i64 x1028000_1, .slice Ao58 x1028001_1.length co58] 24 (0, 0))) := ⟨h7_⟩
                    have n8_ : Y0 (w62.heap[g_0]? = some (.cells #[.int .i64 0, .slice none 0 0] 24 (0, 0))) := ⟨h8_⟩
                    have n9_ : Y0 (w.heap.size ≤ g_0) := ⟨h9_⟩
                    have n10_ : Y0 (w.heap.size ≤ g_0) := ⟨h10_⟩
                    have n11_ : Y0 (g_3 ≠ g_0) := ⟨h11_⟩
                    have n12_ : Y0 (g_0 ≠ g_3) := ⟨h12_⟩
                    have n13_ : Y0 (g_4 ≠ g_0) := ⟨h13_⟩
                    have n14_ : Y0 (g_0 ≠ g_4) := ⟨h14_⟩
                    have n15_ : Y0 (g_2 ≠ g_0) := ⟨h15_⟩
                    have n16_ : Y0 (g_0 ≠ g_2) := ⟨h16_⟩
                    have n17_ : Y0 (g_1 ≠ g_0) := ⟨h17_⟩
                    have n18_ : Y0 (g_0 ≠ g_1) := ⟨h18_⟩
                    have n19_ : Y0 (Below w.heap.size w w62) := ⟨h19_⟩
                    clear HO_7
                    clear HO_1019001
                    clear HO_1028001
                    clear B_0
                    clear B_2
                    clear B_3
                    clear B_4
                    clear HB
                    clear h0_ h1_ h2_ h3_ h4_ h5_ h6_ h7_ h8_ h9_ h10_ h11_ h12_ h13_ h14_ h15_ h16_ h17_ h18_ h19_
                    have O_3 := n0_
                    have HO_1019001 := n1_
                    have HO_1028001 := n2_
                    have HO_7 := n3_
                    have B_0 := n4_
                    have B_2 := n5_
                    have B_3 := n6_
                    have B_4 := n7_
                    have B_1 := n8_
                    have W_0 := n9_
                    have G_0 := n10_
                    have N_3 := n11_
                    have N_8 := n12_
                    have N_2 := n13_
                    have N_b := n14_
                    have N_1 := n15_
                    have N_a := n16_
                    have N_0 := n17_
                    have N_9 := n18_
                    have HB := n19_
                    clear n0_ n1_ n2_ n3_ n4_ n5_ n6_ n7_ n8_ n9_ n10_ n11_ n12_ n13_ n14_ n15_ n16_ n17_ n18_ n19_
                    have hHeld : w62.cell? ⟨g_1, 0, none⟩ = some (.int .i64 x1028000_1) ∧ w62.cell? ⟨g_1, 1, none⟩ = some (.slice Ao58 x1028001_1.length co58) ∧ w62.cell? (d_0.add ((x10_1).toNat * 13)) = some (.int .i64 ((Y1 t_0 x10_1).f0.f0)) ∧ w62.cell? ⟨(d_0.add ((x10_1).toNat * 13)).block, (d_0.add ((x10_1).toNat * 13)).off + 1, none⟩ = some (.int .i64 ((Y1 t_0 x10_1).f0.f1)) ∧ w62.cell? ⟨(d_0.add ((x10_1).toNat * 13)).block, (d_0.add ((x10_1).toNat * 13)).off + 2, none⟩ = some (.int .i64 ((Y1 t_0 x10_1).f1)) ∧ w62.cell? ⟨(d_0.add ((x10_1).toNat * 13)).block, (d_0.add ((x10_1).toNat * 13)).off + 3, none⟩ = some (.int .i64 ((Y1 t_0 x10_1).f2.f0)) ∧ w62.cell? ⟨(d_0.add ((x10_1).toNat * 13)).block, (d_0.add ((x10_1).toNat * 13)).off + 4, none⟩ = some (.int .i64 ((Y1 t_0 x10_1).f2.f1)) ∧ w62.cell? ⟨(d_0.add ((x10_1).toNat * 13)).block, (d_0.add ((x10_1).toNat * 13)).off + 5, none⟩ = some (.bool ((Y1 t_0 x10_1).f3)) ∧ w62.cell? ⟨(d_0.add ((x10_1).toNat * 13)).block, (d_0.add ((x10_1).toNat * 13)).off + 6, none⟩ = some (.int .i64 ((Y1 t_0 x10_1).f4.f0)) ∧ w62.cell? ⟨(d_0.add ((x10_1).toNat * 13)).block, (d_0.add ((x10_1).toNat * 13)).off + 7, none⟩ = some (.int .i64 ((Y1 t_0 x10_1).f4.f1)) ∧ w62.cell? ⟨(d_0.add ((x10_1).toNat * 13)).block, (d_0.add ((x10_1).toNat * 13)).off + 8, none⟩ = some (.int .i64 ((Y1 t_0 x10_1).f4.f2)) ∧ w62.cell? ⟨(d_0.add ((x10_1).toNat * 13)).block, (d_0.add ((x10_1).toNat * 13)).off + 9, none⟩ = some (.int .i64 ((Y1 t_0 x10_1).f4.f3)) ∧ w62.cell? ⟨(d_0.add ((x10_1).toNat * 13)).block, (d_0.add ((x10_1).toNat * 13)).off + 10, none⟩ = some (.int .i64 ((Y1 t_0 x10_1).f4.f4)) ∧ w62.cell? ⟨(d_0.add ((x10_1).toNat * 13)).block, (d_0.add ((x10_1).toNat * 13)).off + 11, none⟩ = some (.int .i64 ((Y1 t_0 x10_1).f4.f5)) ∧ w62.cell? ⟨(d_0.add ((x10_1).toNat * 13)).block, (d_0.add ((x10_1).toNat * 13)).off + 12, none⟩ = some (.int .i64 ((Y1 t_0 x10_1).f4.f6)) := hS_
                    obtain ⟨Ao64, co64, eo64⟩ := Kd.R_slice O_3.out
                    (first | subst eo64 | (injection eo64 with f1_ f2_ f3_; have f4_ := f1_.symm; have f5_ := f3_.symm; clear f1_ f2_ f3_; subst f4_; subst f5_))
                    refine norm_ (a' := ?_) ?_ ?_
                    rotate_left
                    · simp only [YB, Act.put, List.setIfInBounds_toArray, List.set_cons_zero, List.set_cons_succ]
                      rfl
                    refine one_ (i := 10) (N := none) #[true, true, true, true, true, true, true, true, true, true, true, false] rfl rfl (YH HT_.out (by kernel_rfl)) (by decide) (fun K hK => ?_)
                    have hs63 : w62.cell? ⟨g_0, 0, none⟩ = some (.int .i64 0) := (Y2 B_1.out 0).trans rfl
                    have hfs63 := Y4 B_1.out 0
                    have hns63_0 := N_3.out
                    have hns63_1 := N_2.out
                    have hns63_2 := N_1.out
                    have hns63_3 := N_0.out
                    have hms63_0 := N_8.out
                    have hms63_1 := N_b.out
                    have hms63_2 := N_a.out
                    have hms63_3 := N_9.out
                    have hs65 : w62.cell? ⟨g_0, 1, none⟩ = some (.slice none 0 0) := (Y2 B_1.out 1).trans rfl
                    have hfs65 := Y4 B_1.out 1
                    have hns65_0 := N_3.out
                    have hns65_1 := N_2.out
                    have hns65_2 := N_1.out
                    have hns65_3 := N_0.out
                    have hms65_0 := N_8.out
                    have hms65_1 := N_b.out
                    have hms65_2 := N_a.out
                    have hms65_3 := N_9.out
                    refine skip_ (w1 := ?_) (by rfl) rfl ?_ ?_
                    rotate_left
                    · go_simp
                      rfl
                    refine hK.out _ _ ⟨((Yx (p := ⟨g_0, _, none⟩) N_0.out _).trans (((Yx (p := ⟨g_0, _, none⟩) N_0.out _).trans (hHeld.1)))), ((Yx (p := ⟨g_0, _, none⟩) N_0.out _).trans (((Yx (p := ⟨g_0, _, none⟩) N_0.out _).trans (hHeld.2.1)))), ((Yx (p := ⟨g_0, _, none⟩) (by first | exact Kd.own_blk (Kd.R_ne HO_7.out B_1.out (by decide)) | (rw [Ys]; exact Kd.own_blk (Kd.R_ne HO_7.out B_1.out (by decide))) | (show (Addr.add _ _).block ≠ _; rw [Ys]; exact Kd.own_blk (Kd.R_ne HO_7.out B_1.out (by decide))) | (dsimp only; exact Kd.own_blk (Kd.R_ne HO_7.out B_1.out (by decide)))) _).trans (((Yx (p := ⟨g_0, _, none⟩) (by first | exact Kd.own_blk (Kd.R_ne HO_7.out B_1.out (by decide)) | (rw [Ys]; exact Kd.own_blk (Kd.R_ne HO_7.out B_1.out (by decide))) | (show (Addr.add _ _).block ≠ _; rw [Ys]; exact Kd.own_blk (Kd.R_ne HO_7.out B_1.out (by decide))) | (dsimp only; exact Kd.own_blk (Kd.R_ne HO_7.out B_1.out (by decide)))) _).trans (hHeld.2.2.1)))), ((Yx (p := ⟨g_0, _, none⟩) (by first | exact Kd.own_blk (Kd.R_ne HO_7.out B_1.out (by decide)) | (rw [Ys]; exact Kd.own_blk (Kd.R_ne HO_7.out B_1.out (by decide))) | (show (Addr.add _ _).block ≠ _; rw [Ys]; exact Kd.own_blk (Kd.R_ne HO_7.out B_1.out (by decide))) | (dsimp only; exact Kd.own_blk (Kd.R_ne HO_7.out B_1.out (by decide)))) _).trans (((Yx (p := ⟨g_0, _, none⟩) (by first | exact Kd.own_blk (Kd.R_ne HO_7.out B_1.out (by decide)) | (rw [Ys]; exact Kd.own_blk (Kd.R_ne HO_7.out B_1.out (by decide))) | (show (Addr.add _ _).block ≠ _; rw [Ys]; exact Kd.own_blk (Kd.R_ne HO_7.out B_1.out (by decide))) | (dsimp only; exact Kd.own_blk (Kd.R_ne HO_7.out B_1.out (by decide)))) _).trans (hHeld.2.2.2.1)))), ((Yx (p := ⟨g_0, _, none⟩) (by first | exact Kd.own_blk (Kd.R_ne HO_7.out B_1.out (by decide)) | (rw [Ys]; exact Kd.own_blk (Kd.R_ne HO_7.out B_1.out (by decide))) | (show (Addr.add _ _).block ≠ _; rw [Ys]; exact Kd.own_blk (Kd.R_ne HO_7.out B_1.out (by decide))) | (dsimp only; exact Kd.own_blk (Kd.R_ne HO_7.out B_1.out (by decide)))) _).trans (((Yx (p := ⟨g_0, _, none⟩) (by first | exact Kd.own_blk (Kd.R_ne HO_7.out B_1.out (by decide)) | (rw [Ys]; exact Kd.own_blk (Kd.R_ne HO_7.out B_1.out (by decide))) | (show (Addr.add _ _).block ≠ _; rw [Ys]; exact Kd.own_blk (Kd.R_ne HO_7.out B_1.out (by decide))) | (dsimp only; exact Kd.own_blk (Kd.R_ne HO_7.out B_1.out (by decide)))) _).trans (hHeld.2.2.2.2.1)))), ((Yx (p := ⟨g_0, _, none⟩) (by first | exact Kd.own_blk (Kd.R_ne HO_7.out B_1.out (by decide)) | (rw [Ys]; exact Kd.own_blk (Kd.R_ne HO_7.out B_1.out (by decide))) | (show (Addr.add _ _).block ≠ _; rw [Ys]; exact Kd.own_blk (Kd.R_ne HO_7.out B_1.out (by decide))) | (dsimp only; exact Kd.own_blk (Kd.R_ne HO_7.out B_1.out (by decide)))) _).trans (((Yx (p := ⟨g_0, _, none⟩) (by first | exact Kd.own_blk (Kd.R_ne HO_7.out B_1.out (by decide)) | (rw [Ys]; exact Kd.own_blk (Kd.R_ne HO_7.out B_1.out (by decide))) | (show (Addr.add _ _).block ≠ _; rw [Ys]; exact Kd.own_blk (Kd.R_ne HO_7.out B_1.out (by decide))) | (dsimp only; exact Kd.own_blk (Kd.R_ne HO_7.out B_1.out (by decide)))) _).trans (hHeld.2.2.2.2.2.1)))), ((Yx (p := ⟨g_0, _, none⟩) (by first | exact Kd.own_blk (Kd.R_ne HO_7.out B_1.out (by decide)) | (rw [Ys]; exact Kd.own_blk (Kd.R_ne HO_7.out B_1.out (by decide))) | (show (Addr.add _ _).block ≠ _; rw [Ys]; exact Kd.own_blk (Kd.R_ne HO_7.out B_1.out (by decide))) | (dsimp only; exact Kd.own_blk (Kd.R_ne HO_7.out B_1.out (by decide)))) _).trans (((Yx (p := ⟨g_0, _, none⟩) (by first | exact Kd.own_blk (Kd.R_ne HO_7.out B_1.out (by decide)) | (rw [Ys]; exact Kd.own_blk (Kd.R_ne HO_7.out B_1.out (by decide))) | (show (Addr.add _ _).block ≠ _; rw [Ys]; exact Kd.own_blk (Kd.R_ne HO_7.out B_1.out (by decide))) | (dsimp only; exact Kd.own_blk (Kd.R_ne HO_7.out B_1.out (by decide)))) _).trans (hHeld.2.2.2.2.2.2.1)))), ((Yx (p := ⟨g_0, _, none⟩) (by first | exact Kd.own_blk (Kd.R_ne HO_7.out B_1.out (by decide)) | (rw [Ys]; exact Kd.own_blk (Kd.R_ne HO_7.out B_1.out (by decide))) | (show (Addr.add _ _).block ≠ _; rw [Ys]; exact Kd.own_blk (Kd.R_ne HO_7.out B_1.out (by decide))) | (dsimp only; exact Kd.own_blk (Kd.R_ne HO_7.out B_1.out (by decide)))) _).trans (((Yx (p := ⟨g_0, _, none⟩) (by first | exact Kd.own_blk (Kd.R_ne HO_7.out B_1.out (by decide)) | (rw [Ys]; exact Kd.own_blk (Kd.R_ne HO_7.out B_1.out (by decide))) | (show (Addr.add _ _).block ≠ _; rw [Ys]; exact Kd.own_blk (Kd.R_ne HO_7.out B_1.out (by decide))) | (dsimp only; exact Kd.own_blk (Kd.R_ne HO_7.out B_1.out (by decide)))) _).trans (hHeld.2.2.2.2.2.2.2.1)))), ((Yx (p := ⟨g_0, _, none⟩) (by first | exact Kd.own_blk (Kd.R_ne HO_7.out B_1.out (by decide)) | (rw [Ys]; exact Kd.own_blk (Kd.R_ne HO_7.out B_1.out (by decide))) | (show (Addr.add _ _).block ≠ _; rw [Ys]; exact Kd.own_blk (Kd.R_ne HO_7.out B_1.out (by decide))) | (dsimp only; exact Kd.own_blk (Kd.R_ne HO_7.out B_1.out (by decide)))) _).trans (((Yx (p := ⟨g_0, _, none⟩) (by first | exact Kd.own_blk (Kd.R_ne HO_7.out B_1.out (by decide)) | (rw [Ys]; exact Kd.own_blk (Kd.R_ne HO_7.out B_1.out (by decide))) | (show (Addr.add _ _).block ≠ _; rw [Ys]; exact Kd.own_blk (Kd.R_ne HO_7.out B_1.out (by decide))) | (dsimp only; exact Kd.own_blk (Kd.R_ne HO_7.out B_1.out (by decide)))) _).trans (hHeld.2.2.2.2.2.2.2.2.1)))), ((Yx (p := ⟨g_0, _, none⟩) (by first | exact Kd.own_blk (Kd.R_ne HO_7.out B_1.out (by decide)) | (rw [Ys]; exact Kd.own_blk (Kd.R_ne HO_7.out B_1.out (by decide))) | (show (Addr.add _ _).block ≠ _; rw [Ys]; exact Kd.own_blk (Kd.R_ne HO_7.out B_1.out (by decide))) | (dsimp only; exact Kd.own_blk (Kd.R_ne HO_7.out B_1.out (by decide)))) _).trans (((Yx (p := ⟨g_0, _, none⟩) (by first | exact Kd.own_blk (Kd.R_ne HO_7.out B_1.out (by decide)) | (rw [Ys]; exact Kd.own_blk (Kd.R_ne HO_7.out B_1.out (by decide))) | (show (Addr.add _ _).block ≠ _; rw [Ys]; exact Kd.own_blk (Kd.R_ne HO_7.out B_1.out (by decide))) | (dsimp only; exact Kd.own_blk (Kd.R_ne HO_7.out B_1.out (by decide)))) _).trans (hHeld.2.2.2.2.2.2.2.2.2.1)))), ((Yx (p := ⟨g_0, _, none⟩) (by first | exact Kd.own_blk (Kd.R_ne HO_7.out B_1.out (by decide)) | (rw [Ys]; exact Kd.own_blk (Kd.R_ne HO_7.out B_1.out (by decide))) | (show (Addr.add _ _).block ≠ _; rw [Ys]; exact Kd.own_blk (Kd.R_ne HO_7.out B_1.out (by decide))) | (dsimp only; exact Kd.own_blk (Kd.R_ne HO_7.out B_1.out (by decide)))) _).trans (((Yx (p := ⟨g_0, _, none⟩) (by first | exact Kd.own_blk (Kd.R_ne HO_7.out B_1.out (by decide)) | (rw [Ys]; exact Kd.own_blk (Kd.R_ne HO_7.out B_1.out (by decide))) | (show (Addr.add _ _).block ≠ _; rw [Ys]; exact Kd.own_blk (Kd.R_ne HO_7.out B_1.out (by decide))) | (dsimp only; exact Kd.own_blk (Kd.R_ne HO_7.out B_1.out (by decide)))) _).trans (hHeld.2.2.2.2.2.2.2.2.2.2.1)))), ((Yx (p := ⟨g_0, _, none⟩) (by first | exact Kd.own_blk (Kd.R_ne HO_7.out B_1.out (by decide)) | (rw [Ys]; exact Kd.own_blk (Kd.R_ne HO_7.out B_1.out (by decide))) | (show (Addr.add _ _).block ≠ _; rw [Ys]; exact Kd.own_blk (Kd.R_ne HO_7.out B_1.out (by decide))) | (dsimp only; exact Kd.own_blk (Kd.R_ne HO_7.out B_1.out (by decide)))) _).trans (((Yx (p := ⟨g_0, _, none⟩) (by first | exact Kd.own_blk (Kd.R_ne HO_7.out B_1.out (by decide)) | (rw [Ys]; exact Kd.own_blk (Kd.R_ne HO_7.out B_1.out (by decide))) | (show (Addr.add _ _).block ≠ _; rw [Ys]; exact Kd.own_blk (Kd.R_ne HO_7.out B_1.out (by decide))) | (dsimp only; exact Kd.own_blk (Kd.R_ne HO_7.out B_1.out (by decide)))) _).trans (hHeld.2.2.2.2.2.2.2.2.2.2.2.1)))), ((Yx (p := ⟨g_0, _, none⟩) (by first | exact Kd.own_blk (Kd.R_ne HO_7.out B_1.out (by decide)) | (rw [Ys]; exact Kd.own_blk (Kd.R_ne HO_7.out B_1.out (by decide))) | (show (Addr.add _ _).block ≠ _; rw [Ys]; exact Kd.own_blk (Kd.R_ne HO_7.out B_1.out (by decide))) | (dsimp only; exact Kd.own_blk (Kd.R_ne HO_7.out B_1.out (by decide)))) _).trans (((Yx (p := ⟨g_0, _, none⟩) (by first | exact Kd.own_blk (Kd.R_ne HO_7.out B_1.out (by decide)) | (rw [Ys]; exact Kd.own_blk (Kd.R_ne HO_7.out B_1.out (by decide))) | (show (Addr.add _ _).block ≠ _; rw [Ys]; exact Kd.own_blk (Kd.R_ne HO_7.out B_1.out (by decide))) | (dsimp only; exact Kd.own_blk (Kd.R_ne HO_7.out B_1.out (by decide)))) _).trans (hHeld.2.2.2.2.2.2.2.2.2.2.2.2.1)))), ((Yx (p := ⟨g_0, _, none⟩) (by first | exact Kd.own_blk (Kd.R_ne HO_7.out B_1.out (by decide)) | (rw [Ys]; exact Kd.own_blk (Kd.R_ne HO_7.out B_1.out (by decide))) | (show (Addr.add _ _).block ≠ _; rw [Ys]; exact Kd.own_blk (Kd.R_ne HO_7.out B_1.out (by decide))) | (dsimp only; exact Kd.own_blk (Kd.R_ne HO_7.out B_1.out (by decide)))) _).trans (((Yx (p := ⟨g_0, _, none⟩) (by first | exact Kd.own_blk (Kd.R_ne HO_7.out B_1.out (by decide)) | (rw [Ys]; exact Kd.own_blk (Kd.R_ne HO_7.out B_1.out (by decide))) | (show (Addr.add _ _).block ≠ _; rw [Ys]; exact Kd.own_blk (Kd.R_ne HO_7.out B_1.out (by decide))) | (dsimp only; exact Kd.own_blk (Kd.R_ne HO_7.out B_1.out (by decide)))) _).trans (hHeld.2.2.2.2.2.2.2.2.2.2.2.2.2.1)))), ((Yx (p := ⟨g_0, _, none⟩) (by first | exact Kd.own_blk (Kd.R_ne HO_7.out B_1.out (by decide)) | (rw [Ys]; exact Kd.own_blk (Kd.R_ne HO_7.out B_1.out (by decide))) | (show (Addr.add _ _).block ≠ _; rw [Ys]; exact Kd.own_blk (Kd.R_ne HO_7.out B_1.out (by decide))) | (dsimp only; exact Kd.own_blk (Kd.R_ne HO_7.out B_1.out (by decide)))) _).trans (((Yx (p := ⟨g_0, _, none⟩) (by first | exact Kd.own_blk (Kd.R_ne HO_7.out B_1.out (by decide)) | (rw [Ys]; exact Kd.own_blk (Kd.R_ne HO_7.out B_1.out (by decide))) | (show (Addr.add _ _).block ≠ _; rw [Ys]; exact Kd.own_blk (Kd.R_ne HO_7.out B_1.out (by decide))) | (dsimp only; exact Kd.own_blk (Kd.R_ne HO_7.out B_1.out (by decide)))) _).trans (hHeld.2.2.2.2.2.2.2.2.2.2.2.2.2.2))))⟩ (fun hHeld => ?_)
                    clear hK K
                    refine pure_ (i := 11) (N := some 12) (v := ?_) (a' := ?_) #[true, true, true, true, true, true, true, true, true, true, true, true] rfl rfl (Y1Z HT_.out (by kernel_rfl)) (fun _ _ _ h => h) (Or.inl ⟨by rfl, ?_⟩) ?_ ?_
                    rotate_left
                    · intro w'
                      go_simp
                      with_reducible rfl
                    rotate_left
                    · simp only [Act.put, List.setIfInBounds_toArray, List.set_cons_zero, List.set_cons_succ, i64_w, i32_w]
                      rfl
                    refine done_ (Y17 HT_.out (by kernel_rfl)) ?_
                    have hnb66 := N_8.out
                    have hnc66 := N_3.out
                    have hnb67 := N_b.out
                    have hnc67 := N_2.out
                    have hnb68 := N_a.out
                    have hnc68 := N_1.out
                    have hnb69 := N_9.out
                    have hnc69 := N_0.out
                    have z_w := Y2 B_1.out
                    have f_t := Y4 B_1.out
                    have hnb71 := N_i.out
                    have hnc71 := N_d.out
                    have hnb72 := N_j.out
                    have hnc72 := N_c.out
                    have hnb73 := N_h.out
                    have hnc73 := N_e.out
                    have z_h := Y2 B_4.out
                    have f_m := Y4 B_4.out
                    try go_wp2
                    go_roundg k1
                    case measure => have := HK1.out; omega
                    case rel => exact ⟨(wrap64 (x10_1 + 1)), (t_3), (t_4), (.slice Ao64 t_4.length co64), reS, H', ⟨by have := HK1.out; omega⟩, ⟨by (with_reducible repeat (first | apply Kd.R_alloc | apply Kd.R_drewN | apply Kd.R_drew)); exact Kd.R_mono (Kd.R_far (p := ⟨g_1, 1, none⟩) (Kd.R_far (p := ⟨g_1, 0, none⟩) (Kd.R_far (p := ⟨g_0, 1, none⟩) (Kd.R_far (p := ⟨g_0, 0, none⟩) (Kd.R_types (Kd.R_types HO_7.out B_1.out (by decide)) B_4.out (by decide)) (fun _ hk => hk.1.2) (.int .i64 t_3)) (fun _ hk => hk.1.2) (.slice Ao64 t_4.length co64)) (fun _ hk => hk.2) (.int .i64 t_3)) (fun _ hk => hk.2) (.slice Ao64 t_4.length co64)) (fun _ hk => by first | exact ⟨hk.1.1.2.1, hk.1.1.1⟩ | (revert hk; (try simp only [and_imp]); intros; (repeat' apply And.intro) <;> first | assumption | trivial))⟩, ⟨by (with_reducible repeat (first | apply Kd.R_alloc | apply Kd.R_drewN | apply Kd.R_drew)); exact Kd.R_mono (Kd.R_far (p := ⟨g_1, 1, none⟩) (Kd.R_far (p := ⟨g_1, 0, none⟩) (Kd.R_far (p := ⟨g_0, 1, none⟩) (Kd.R_far (p := ⟨g_0, 0, none⟩) (Kd.R_types (Kd.R_types HO_1019001.out B_1.out (by decide)) B_4.out (by decide)) (fun _ hk => hk.1.2) (.int .i64 t_3)) (fun _ hk => hk.1.2) (.slice Ao64 t_4.length co64)) (fun _ hk => hk.2) (.int .i64 t_3)) (fun _ hk => hk.2) (.slice Ao64 t_4.length co64)) (fun _ hk => by first | exact ⟨hk.1.1.2.2, hk.1.1.1⟩ | (revert hk; (try simp only [and_imp]); intros; (repeat' apply And.intro) <;> first | assumption | trivial))⟩, ⟨Or.inl (by (with_reducible repeat (first | apply Kd.R_alloc | apply Kd.R_drewN | apply Kd.R_drew)); exact Kd.R_mono (Kd.R_far (p := ⟨g_1, 1, none⟩) (Kd.R_far (p := ⟨g_1, 0, none⟩) (Kd.R_far (p := ⟨g_0, 1, none⟩) (Kd.R_far (p := ⟨g_0, 0, none⟩) (Kd.R_types (Kd.R_types O_3.out B_1.out (by decide)) B_4.out (by decide)) (fun _ hk => hk.1.2) (.int .i64 t_3)) (fun _ hk => hk.1.2) (.slice Ao64 t_4.length co64)) (fun _ hk => hk.2) (.int .i64 t_3)) (fun _ hk => hk.2) (.slice Ao64 t_4.length co64)) (fun _ _ => trivial))⟩, ⟨by (with_reducible repeat (first | refine Y8 ?_ _ | refine Y7 ?_ | refine Y6 ?_ _)); refine (Below.heap_setCell _ ⟨_, _, none⟩ _ _ N_d.out).trans ?_; (with_reducible repeat (first | refine Y8 ?_ _ | refine Y7 ?_ | refine Y6 ?_ _)); refine (Below.heap_setCell _ ⟨_, _, none⟩ _ _ N_d.out).trans ?_; (with_reducible repeat (first | refine Y8 ?_ _ | refine Y7 ?_ | refine Y6 ?_ _)); refine (Below.heap_setCell _ ⟨_, _, none⟩ _ _ N_3.out).trans ?_; (with_reducible repeat (first | refine Y8 ?_ _ | refine Y7 ?_ | refine Y6 ?_ _)); refine (Below.heap_setCell _ ⟨_, _, none⟩ _ _ N_3.out).trans ?_; (with_reducible repeat (first | refine Y8 ?_ _ | refine Y7 ?_ | refine Y6 ?_ _)); exact B_0.out⟩, ⟨by (with_reducible repeat (first | refine Y8 ?_ _ | refine Y7 ?_ | refine Y6 ?_ _)); refine (Below.heap_setCell _ ⟨_, _, none⟩ _ _ N_c.out).trans ?_; (with_reducible repeat (first | refine Y8 ?_ _ | refine Y7 ?_ | refine Y6 ?_ _)); refine (Below.heap_setCell _ ⟨_, _, none⟩ _ _ N_c.out).trans ?_; (with_reducible repeat (first | refine Y8 ?_ _ | refine Y7 ?_ | refine Y6 ?_ _)); refine (Below.heap_setCell _ ⟨_, _, none⟩ _ _ N_2.out).trans ?_; (with_reducible repeat (first | refine Y8 ?_ _ | refine Y7 ?_ | refine Y6 ?_ _)); refine (Below.heap_setCell _ ⟨_, _, none⟩ _ _ N_2.out).trans ?_; (with_reducible repeat (first | refine Y8 ?_ _ | refine Y7 ?_ | refine Y6 ?_ _)); exact B_2.out⟩, ⟨by (with_reducible repeat (first | refine Y8 ?_ _ | refine Y7 ?_ | refine Y6 ?_ _)); refine (Below.heap_setCell _ ⟨_, _, none⟩ _ _ N_e.out).trans ?_; (with_reducible repeat (first | refine Y8 ?_ _ | refine Y7 ?_ | refine Y6 ?_ _)); refine (Below.heap_setCell _ ⟨_, _, none⟩ _ _ N_e.out).trans ?_; (with_reducible repeat (first | refine Y8 ?_ _ | refine Y7 ?_ | refine Y6 ?_ _)); refine (Below.heap_setCell _ ⟨_, _, none⟩ _ _ N_1.out).trans ?_; (with_reducible repeat (first | refine Y8 ?_ _ | refine Y7 ?_ | refine Y6 ?_ _)); refine (Below.heap_setCell _ ⟨_, _, none⟩ _ _ N_1.out).trans ?_; (with_reducible repeat (first | refine Y8 ?_ _ | refine Y7 ?_ | refine Y6 ?_ _)); exact B_3.out⟩, ⟨by (with_reducible repeat (first | refine Y8 ?_ _ | refine Y7 ?_ | refine Y6 ?_ _)); refine Yn (cs := #[.int .i64 t_3, .slice Ao58 x1028001_1.length co58]) ?_ 1 _ rfl; (with_reducible repeat (first | refine Y8 ?_ _ | refine Y7 ?_ | refine Y6 ?_ _)); refine Yn (cs := #[.int .i64 x1028000_1, .slice Ao58 x1028001_1.length co58]) ?_ 0 _ rfl; (with_reducible repeat (first | refine Y8 ?_ _ | refine Y7 ?_ | refine Y6 ?_ _)); refine (Below.heap_setCell _ ⟨_, _, none⟩ _ _ N_0.out).trans ?_; (with_reducible repeat (first | refine Y8 ?_ _ | refine Y7 ?_ | refine Y6 ?_ _)); refine (Below.heap_setCell _ ⟨_, _, none⟩ _ _ N_0.out).trans ?_; (with_reducible repeat (first | refine Y8 ?_ _ | refine Y7 ?_ | refine Y6 ?_ _)); exact B_4.out⟩, ⟨hU HB.out⟩⟩
                  · rw [if_neg c56] at H
                    exact absurd H (by simp)
                · rw [if_neg c54] at H
                  exact absurd H (by simp)
              · rw [if_neg c53] at H
                have c53b0 := decide_eq_false c53
                clear c53
                obtain ⟨⟨t_e, t_k⟩, A750, H⟩ := bS H
                try dsimp only at H
                have A75 := Y0.mk A750
                clear A750
                obtain ⟨⟨t_j, t_i⟩, A760, H⟩ := bS H
                try dsimp only at H
                have A76 := Y0.mk A760
                clear A760
                obtain ⟨⟨t_g, t_h⟩, A770, H⟩ := bS H
                try dsimp only at H
                have A77 := Y0.mk A770
                clear A770
                by_cases c78 : t_k = 0
                · rw [if_pos c78] at H
                  have c78b0 := bqT c78
                  have c78b1 := bnF c78
                  clear c78
                  by_cases c79 : t_i = 0
                  · rw [if_pos c79] at H
                    have c79b0 := bqT c79
                    have c79b1 := bnF c79
                    clear c79
                    by_cases c80 : t_h = 0
                    · rw [if_pos c80] at H
                      have c80b0 := bqT c80
                      have c80b1 := bnF c80
                      clear c80
                      by_cases c81 : (t_e.length : Int) = 0
                      · rw [if_pos c81] at H
                        have c81b0 := bqT c81
                        have c81b1 := bnF c81
                        clear c81
                        by_cases c82 : (t_j.length : Int) = 0
                        · rw [if_pos c82] at H
                          have c82b0 := bqT c82
                          have c82b1 := bnF c82
                          clear c82
                          by_cases c83 : (t_g.length : Int) = 0
                          · rw [if_pos c83] at H
                            have c83b0 := bqT c83
                            have c83b1 := bnF c83
                            clear c83
                            obtain ⟨t_c, A840, H⟩ := bS H
                            replace H : (if t_c = true then ((Ya.f k1).bind fun t_7 => (some t_7)) else (none)) = some r := H
                            have A84 := Y0.mk A840
                            clear A840
                            by_cases c85 : t_c = true
                            · subst c85
                              have H1 : ((Ya.f k1).bind fun t_7 => (some t_7)) = some r := by rw [if_pos rfl] at H; exact H
                              clear H
                              have H := H1
                              clear H1
                              obtain ⟨t_7, A860, H⟩ := bS H
                              replace H : (some t_7) = some r := H
                              have A86 := Y0.mk A860
                              clear A860
                              obtain rfl := Option.some.inj H
                              obtain ⟨Ao87, co87, eo87⟩ := Kd.R_slice HO_7.out
                              subst eo87
                              have hnb88 := N_6.out
                              have hnc88 := N_5.out
                              have hnb89 := N_4.out
                              have hnc89 := N_g.out
                              have hnb90 := N_d.out
                              have hnc90 := N_i.out
                              have z_b := Y2 B_0.out
                              have f_s := Y4 B_0.out
                              have hnb92 := N_f.out
                              have hnc92 := N_7.out
                              have hnb93 := N_e.out
                              have hnc93 := N_h.out
                              have z_x := Y2 B_3.out
                              have f_u := Y4 B_3.out
                              go_wp2_with (first | ((with_reducible refine Yd (f := 36) rfl ?_); refine goesA (some 65) Try.func36 #[.agg #[.int .i64 a0_0, .slice A0_1 l0_1.length c0_1], .agg #[.int .i64 t_2, .slice Ao42 t_1.length co42]] ?_; (with_reducible refine (Yk.calls k1 a0_0 _ _ l0_1 t_2 _ _ t_1 t_e t_k _ ?side1 ?side2 ?side3 ?side4 A75.out).mono ?_); (case side1 => repeat (first | exact (Kd.C_below HR0_1.out HB.out) | (with_reducible refine Kd.C_alloc ?_ _) | (with_reducible refine Kd.C_drewN ?_ _) | (with_reducible refine Kd.C_drew ?_))); (case side2 => exact HC0_1.out); (case side3 => repeat (first | exact (Kd.R_reads' HO_1019001.out).2.2 | (with_reducible refine Kd.C_alloc ?_ _) | (with_reducible refine Kd.C_drewN ?_ _) | (with_reducible refine Kd.C_drew ?_))); (case side4 => exact (Kd.R_reads' HO_1019001.out).2.1); rintro e w95 ⟨v_3, rfl, ho0, hb⟩; refine ⟨_, rfl, ?_⟩; have n0_ := Y0.mk (Kd.R_elder' (Kd.rU HO_7.out) (Kd.R_base ho0) hb); have n1_ := Y0.mk (Kd.R_elder' (Kd.rU HO_1019001.out) (Kd.R_base ho0) hb); have n2_ := Y0.mk (OutR.map (fun h_ => Kd.R_below (Kd.rU h_) hb) HO_1028001.out); have n3_ := Y0.mk (Kd.R_lower (Kd.R_new' (Kd.R_new' ho0 (Kd.R_lt (Kd.rU HO_7.out))) (Kd.R_lt (Kd.rU HO_1019001.out))) (Yh (hU HB.out))); have n4_ := Y0.mk (Y3 (bU B_0.out) hb); have n5_ := Y0.mk (Y3 (bU B_2.out) hb); have n6_ := Y0.mk (Y3 (bU B_3.out) hb); have n7_ := Y0.mk (Y3 (bU B_4.out) hb); have n8_ := Y0.mk (Y5 (hU HB.out) hb); clear HO_7; clear HO_1019001; clear HO_1028001; clear B_0; clear B_2; clear B_3; clear B_4; clear HB; have HO_7 := n0_; have HO_1019001 := n1_; have HO_1028001 := n2_; have O_1 := n3_; have B_0 := n4_; have B_2 := n5_; have B_3 := n6_; have B_4 := n7_; have HB := n8_; clear n0_ n1_ n2_ n3_ n4_ n5_ n6_ n7_ n8_; (try clear hb); (try clear hb2); (try clear hk); (try clear hi); (try clear ho0); have hnb96 := N_c.out; have hnc96 := N_j.out; have z_s := Y2 B_2.out; have f_q := Y4 B_2.out; have z_r := Y2 B_3.out; have f_g := Y4 B_3.out) | ((with_reducible refine Yd (f := 36) rfl ?_); refine goesA (some 71) Try.func36 #[.agg #[.int .i64 a1_0, .slice A1_1 l1_1.length c1_1], .agg #[.int .i64 t_2, .slice Ao42 t_1.length co42]] ?_; (with_reducible refine (Yk.calls k1 a1_0 _ _ l1_1 t_2 _ _ t_1 t_j t_i _ ?side1 ?side2 ?side3 ?side4 A76.out).mono ?_); (case side1 => repeat (first | exact (Kd.C_below HR1_1.out HB.out) | (with_reducible refine Kd.C_alloc ?_ _) | (with_reducible refine Kd.C_drewN ?_ _) | (with_reducible refine Kd.C_drew ?_))); (case side2 => exact HC1_1.out); (case side3 => repeat (first | exact (Kd.R_reads' HO_1019001.out).2.2 | (with_reducible refine Kd.C_alloc ?_ _) | (with_reducible refine Kd.C_drewN ?_ _) | (with_reducible refine Kd.C_drew ?_))); (case side4 => exact (Kd.R_reads' HO_1019001.out).2.1); rintro e w99 ⟨v_4, rfl, ho0, hb⟩; refine ⟨_, rfl, ?_⟩; have n0_ := Y0.mk (Kd.R_elder' (Kd.rU HO_7.out) (Kd.R_base ho0) hb); have n1_ := Y0.mk (Kd.R_elder' (Kd.rU HO_1019001.out) (Kd.R_base ho0) hb); have n2_ := Y0.mk (OutR.map (fun h_ => Kd.R_below (Kd.rU h_) hb) HO_1028001.out); have n3_ := Y0.mk (Kd.R_elder' (Kd.rU O_1.out) (Kd.R_base ho0) hb); have n4_ := Y0.mk (Kd.R_lower (Kd.R_new' (Kd.R_new' (Kd.R_new' ho0 (Kd.R_lt (Kd.rU HO_7.out))) (Kd.R_lt (Kd.rU HO_1019001.out))) (Kd.R_lt (Kd.rU O_1.out))) (Yh (hU HB.out))); have n5_ := Y0.mk (Y3 (bU B_0.out) hb); have n6_ := Y0.mk (Y3 (bU B_2.out) hb); have n7_ := Y0.mk (Y3 (bU B_3.out) hb); have n8_ := Y0.mk (Y3 (bU B_4.out) hb); have n9_ := Y0.mk (Y5 (hU HB.out) hb); clear HO_7; clear HO_1019001; clear HO_1028001; clear O_1; clear B_0; clear B_2; clear B_3; clear B_4; clear HB; have HO_7 := n0_; have HO_1019001 := n1_; have HO_1028001 := n2_; have O_1 := n3_; have O_2 := n4_; have B_0 := n5_; have B_2 := n6_; have B_3 := n7_; have B_4 := n8_; have HB := n9_; clear n0_ n1_ n2_ n3_ n4_ n5_ n6_ n7_ n8_ n9_; (try clear hb); (try clear hb2); (try clear hk); (try clear hi); (try clear ho0); have z_j := Y2 B_3.out; have f_r := Y4 B_3.out; have z_y := Y2 B_4.out; have f_e := Y4 B_4.out; obtain ⟨Ao102, co102, eo102⟩ := OutR.slice HO_1028001.out; subst eo102) | ((with_reducible refine Yd (f := 36) rfl ?_); refine goesA (some 77) Try.func36 #[.agg #[.int .i64 t_2, .slice Ao42 t_1.length co42], .agg #[.int .i64 x1028000_1, .slice Ao102 x1028001_1.length co102]] ?_; (with_reducible refine (Yk.calls k1 t_2 _ _ t_1 x1028000_1 _ _ x1028001_1 t_g t_h _ ?side1 ?side2 ?side3 ?side4 A77.out).mono ?_); (case side1 => repeat (first | exact (Kd.R_reads' HO_1019001.out).2.2 | (with_reducible refine Kd.C_alloc ?_ _) | (with_reducible refine Kd.C_drewN ?_ _) | (with_reducible refine Kd.C_drew ?_))); (case side2 => exact (Kd.R_reads' HO_1019001.out).2.1); (case side3 => repeat (first | exact (OutR.reads HR0_1.out HC0_1.out HB.out HO_1028001.out).2 | (with_reducible refine Kd.C_alloc ?_ _) | (with_reducible refine Kd.C_drewN ?_ _) | (with_reducible refine Kd.C_drew ?_))); (case side4 => exact (OutR.reads HR0_1.out HC0_1.out HB.out HO_1028001.out).1); rintro e w103 ⟨v_5, rfl, ho0, hb⟩; refine ⟨_, rfl, ?_⟩; have n0_ := Y0.mk (Kd.R_elder' (Kd.rU HO_7.out) (Kd.R_base ho0) hb); have n1_ := Y0.mk (Kd.R_elder' (Kd.rU HO_1019001.out) (Kd.R_base ho0) hb); have n2_ := Y0.mk (OutR.map (fun h_ => Kd.R_below (Kd.rU h_) hb) HO_1028001.out); have n3_ := Y0.mk (Kd.R_elder' (Kd.rU O_1.out) (Kd.R_base ho0) hb); have n4_ := Y0.mk (Kd.R_elder' (Kd.rU O_2.out) (Kd.R_base ho0) hb); have n5_ := Y0.mk (Kd.R_lower (Kd.R_new' (Kd.R_new' (Kd.R_new' (Kd.R_new' ho0 (Kd.R_lt (Kd.rU HO_7.out))) (Kd.R_lt (Kd.rU HO_1019001.out))) (Kd.R_lt (Kd.rU O_1.out))) (Kd.R_lt (Kd.rU O_2.out))) (Yh (hU HB.out))); have n6_ := Y0.mk (Y3 (bU B_0.out) hb); have n7_ := Y0.mk (Y3 (bU B_2.out) hb); have n8_ := Y0.mk (Y3 (bU B_3.out) hb); have n9_ := Y0.mk (Y3 (bU B_4.out) hb); have n10_ := Y0.mk (Y5 (hU HB.out) hb); clear HO_7; clear HO_1019001; clear HO_1028001; clear O_1; clear O_2; clear B_0; clear B_2; clear B_3; clear B_4; clear HB; have HO_7 := n0_; have HO_1019001 := n1_; have HO_1028001 := n2_; have O_1 := n3_; have O_2 := n4_; have O_4 := n5_; have B_0 := n6_; have B_2 := n7_; have B_3 := n8_; have B_4 := n9_; have HB := n10_; clear n0_ n1_ n2_ n3_ n4_ n5_ n6_ n7_ n8_ n9_ n10_; (try clear hb); (try clear hb2); (try clear hk); (try clear hi); (try clear ho0); obtain ⟨Ao104, co104, eo104⟩ := Kd.R_slice O_1.out; subst eo104; obtain ⟨Ao105, co105, eo105⟩ := Kd.R_slice O_2.out; subst eo105; obtain ⟨Ao106, co106, eo106⟩ := Kd.R_slice O_4.out; subst eo106; have z_e := Y2 B_4.out; have f_j := Y4 B_4.out; have z_t := Y2 B_3.out; have f_f := Y4 B_3.out) | (go_at_call 21; (with_reducible refine (Yy.calls k1 x1028000_1 _ _ x1028001_1 t_2 _ _ t_1 true _ ?side1 ?side2 ?side3 ?side4 A84.out).mono ?_); (case side1 => repeat (first | exact (OutR.reads HR0_1.out HC0_1.out HB.out HO_1028001.out).2 | (with_reducible refine Kd.C_alloc ?_ _) | (with_reducible refine Kd.C_drewN ?_ _) | (with_reducible refine Kd.C_drew ?_))); (case side2 => exact (OutR.reads HR0_1.out HC0_1.out HB.out HO_1028001.out).1); (case side3 => repeat (first | exact (Kd.R_reads' HO_1019001.out).2.2 | (with_reducible refine Kd.C_alloc ?_ _) | (with_reducible refine Kd.C_drewN ?_ _) | (with_reducible refine Kd.C_drew ?_))); (case side4 => exact (Kd.R_reads' HO_1019001.out).2.1); rintro e w109 ⟨rfl, hb⟩; have n0_ := Y0.mk (Kd.R_below (Kd.rU HO_7.out) hb); have n1_ := Y0.mk (Kd.R_below (Kd.rU HO_1019001.out) hb); have n2_ := Y0.mk (OutR.map (fun h_ => Kd.R_below (Kd.rU h_) hb) HO_1028001.out); have n3_ := Y0.mk (Kd.R_below (Kd.rU O_1.out) hb); have n4_ := Y0.mk (Kd.R_below (Kd.rU O_2.out) hb); have n5_ := Y0.mk (Kd.R_below (Kd.rU O_4.out) hb); have n6_ := Y0.mk (Y3 (bU B_0.out) hb); have n7_ := Y0.mk (Y3 (bU B_2.out) hb); have n8_ := Y0.mk (Y3 (bU B_3.out) hb); have n9_ := Y0.mk (Y3 (bU B_4.out) hb); have n10_ := Y0.mk (Y5 (hU HB.out) hb); clear HO_7; clear HO_1019001; clear HO_1028001; clear O_1; clear O_2; clear O_4; clear B_0; clear B_2; clear B_3; clear B_4; clear HB; have HO_7 := n0_; have HO_1019001 := n1_; have HO_1028001 := n2_; have O_1 := n3_; have O_2 := n4_; have O_4 := n5_; have B_0 := n6_; have B_2 := n7_; have B_3 := n8_; have B_4 := n9_; have HB := n10_; clear n0_ n1_ n2_ n3_ n4_ n5_ n6_ n7_ n8_ n9_ n10_; (try clear hb); (try clear hb2); (try clear hk); (try clear hi)) | (go_at_call 18; (with_reducible refine (Ya.calls k1  t_7 _ A86.out).mono ?_); rintro e w110 ⟨rfl, hb⟩; have n0_ := Y0.mk (Kd.R_below (Kd.rU HO_7.out) hb); have n1_ := Y0.mk (Kd.R_below (Kd.rU HO_1019001.out) hb); have n2_ := Y0.mk (OutR.map (fun h_ => Kd.R_below (Kd.rU h_) hb) HO_1028001.out); have n3_ := Y0.mk (Kd.R_below (Kd.rU O_1.out) hb); have n4_ := Y0.mk (Kd.R_below (Kd.rU O_2.out) hb); have n5_ := Y0.mk (Kd.R_below (Kd.rU O_4.out) hb); have n6_ := Y0.mk (Y3 (bU B_0.out) hb); have n7_ := Y0.mk (Y3 (bU B_2.out) hb); have n8_ := Y0.mk (Y3 (bU B_3.out) hb); have n9_ := Y0.mk (Y3 (bU B_4.out) hb); have n10_ := Y0.mk (Y5 (hU HB.out) hb); clear HO_7; clear HO_1019001; clear HO_1028001; clear O_1; clear O_2; clear O_4; clear B_0; clear B_2; clear B_3; clear B_4; clear HB; have HO_7 := n0_; have HO_1019001 := n1_; have HO_1028001 := n2_; have O_1 := n3_; have O_2 := n4_; have O_4 := n5_; have B_0 := n6_; have B_2 := n7_; have B_3 := n8_; have B_4 := n9_; have HB := n10_; clear n0_ n1_ n2_ n3_ n4_ n5_ n6_ n7_ n8_ n9_ n10_; (try clear hb); (try clear hb2); (try clear hk); (try clear hi)))
                              go_ret
                              exact ⟨reT, hU HB.out⟩
                            · replace c85 := Bool.eq_false_iff.mpr c85
                              subst c85
                              have H1 : (none) = some r := by rw [if_neg (show ¬ (false = true) by decide)] at H; exact H
                              clear H
                              have H := H1
                              clear H1
                              exact absurd H (by simp)
                          · rw [if_neg c83] at H
                            exact absurd H (by simp)
                        · rw [if_neg c82] at H
                          exact absurd H (by simp)
                      · rw [if_neg c81] at H
                        exact absurd H (by simp)
                    · rw [if_neg c80] at H
                      exact absurd H (by simp)
                  · rw [if_neg c79] at H
                    exact absurd H (by simp)
                · rw [if_neg c78] at H
                  exact absurd H (by simp)
        · rw [if_neg c26] at H
          exact absurd H (by simp)
      · rw [if_neg c24] at H
        have c24b0 := bqF c24
        have c24b1 := bnT c24
        obtain ⟨t_9, A1110, H⟩ := bS H
        replace H : (some t_9) = some r := H
        have A111 := Y0.mk A1110
        clear A1110
        obtain rfl := Option.some.inj H
        go_enter Try.func10, Try.ntmps10
        go_wp2_with (first | ((with_reducible refine Ye (N := 2) rfl ?_); (try (refine YD (by rfl) ?_; dsimp only)); refine Yf ?hg (N := 2) ?hd (cs := #[.int .i64 a0_0, .slice A0_1 l0_1.length c0_1]) (t := 24) ?hr ?_; (case hd => rfl); (case hg => rfl); (case hr => first | (go_simp; done) | (go_simp; rfl)); intro g_3 hg w112 hbox hb; have n0_ := Y0.mk (Y5 (hU HB.out) hb); have n1_ := Y0.mk (hbox); have n2_ := gE hg HB; have n3_ := gE hg HB; clear HB; have HB := n0_; have B_0 := n1_; have W_1 := n2_; have G_2 := n3_; clear n0_ n1_ n2_ n3_; clear hb hbox hg) | ((with_reducible refine Ye (N := 3) rfl ?_); (try (refine YD (by rfl) ?_; dsimp only)); refine Yf ?hg (N := 3) ?hd (cs := #[.int .i64 a1_0, .slice A1_1 l1_1.length c1_1]) (t := 24) ?hr ?_; (case hd => rfl); (case hg => rfl); (case hr => first | (go_simp; done) | (go_simp; rfl)); intro g_4 hg w113 hbox hb; have n0_ := Y0.mk (Y3 (bU B_0.out) hb); have n1_ := Y0.mk (Y5 (hU HB.out) hb); have n2_ := Y0.mk (hbox); have n3_ := gE hg HB; have n4_ := gE hg HB; have n5_ := gL hg B_0; have n6_ := gG hg B_0; clear B_0; clear HB; have B_0 := n0_; have HB := n1_; have B_2 := n2_; have W_2 := n3_; have G_1 := n4_; have N_6 := n5_; have N_5 := n6_; clear n0_ n1_ n2_ n3_ n4_ n5_ n6_; clear hb hbox hg; have hnb114 := N_6.out; have hnc114 := N_5.out; have z_g := Y2 B_0.out; have f_z := Y4 B_0.out) | ((with_reducible refine Yd (f := 22) rfl ?_); refine goesA (some 20) Try.func22 #[.agg #[.int .i64 a0_0, .slice A0_1 l0_1.length c0_1]] ?_; (with_reducible refine (Yo.calls a0_0 _ _ l0_1 false _ ?side1 ?side2 A3.out).mono ?_); (case side1 => repeat (first | exact (Kd.C_below HR0_1.out HB.out) | (with_reducible refine Kd.C_alloc ?_ _) | (with_reducible refine Kd.C_drewN ?_ _) | (with_reducible refine Kd.C_drew ?_))); (case side2 => exact HC0_1.out); rintro e w116 ⟨rfl, hb⟩; refine ⟨_, rfl, ?_⟩; have n0_ := Y0.mk (Y3 (bU B_0.out) hb); have n1_ := Y0.mk (Y3 (bU B_2.out) hb); have n2_ := Y0.mk (Y5 (hU HB.out) hb); clear B_0; clear B_2; clear HB; have B_0 := n0_; have B_2 := n1_; have HB := n2_; clear n0_ n1_ n2_; (try clear hb); (try clear hb2); (try clear hk); (try clear hi); have z_u := Y2 B_2.out; have f_x := Y4 B_2.out) | (go_at_call 22; (with_reducible refine (Yo.calls a1_0 _ _ l1_1 false _ ?side1 ?side2 A12.out).mono ?_); (case side1 => repeat (first | exact (Kd.C_below HR1_1.out HB.out) | (with_reducible refine Kd.C_alloc ?_ _) | (with_reducible refine Kd.C_drewN ?_ _) | (with_reducible refine Kd.C_drew ?_))); (case side2 => exact HC1_1.out); rintro e w118 ⟨rfl, hb⟩; have n0_ := Y0.mk (Y3 (bU B_0.out) hb); have n1_ := Y0.mk (Y3 (bU B_2.out) hb); have n2_ := Y0.mk (Y5 (hU HB.out) hb); clear B_0; clear B_2; clear HB; have B_0 := n0_; have B_2 := n1_; have HB := n2_; clear n0_ n1_ n2_; (try clear hb); (try clear hb2); (try clear hk); (try clear hi); have z_d := Y2 B_0.out; have f_10 := Y4 B_0.out; have z_f := Y2 B_2.out; have f_l := Y4 B_2.out) | ((with_reducible refine Yd (f := 31) rfl ?_); refine goesA (some 29) Try.func31 #[.agg #[.int .i64 a0_0, .slice A0_1 l0_1.length c0_1], .agg #[.int .i64 a1_0, .slice A1_1 l1_1.length c1_1]] ?_; (with_reducible refine (Y9.calls k a0_0 _ _ l0_1 a1_0 _ _ l1_1 t_2 t_1 t_d _ ?side1 ?side2 ?side3 ?side4 A23.out).mono ?_); (case side1 => repeat (first | exact (Kd.C_below HR0_1.out HB.out) | (with_reducible refine Kd.C_alloc ?_ _) | (with_reducible refine Kd.C_drewN ?_ _) | (with_reducible refine Kd.C_drew ?_))); (case side2 => exact HC0_1.out); (case side3 => repeat (first | exact (Kd.C_below HR1_1.out HB.out) | (with_reducible refine Kd.C_alloc ?_ _) | (with_reducible refine Kd.C_drewN ?_ _) | (with_reducible refine Kd.C_drew ?_))); (case side4 => exact HC1_1.out); rintro e w121 ⟨v_2, rfl, ho0, hb⟩; refine ⟨_, rfl, ?_⟩; have n0_ := Y0.mk (Kd.R_lower ho0 (Yh (hU HB.out))); have n1_ := Y0.mk (Y3 (bU B_0.out) hb); have n2_ := Y0.mk (Y3 (bU B_2.out) hb); have n3_ := Y0.mk (Y5 (hU HB.out) hb); clear B_0; clear B_2; clear HB; have O_0 := n0_; have B_0 := n1_; have B_2 := n2_; have HB := n3_; clear n0_ n1_ n2_ n3_; (try clear hb); (try clear hb2); (try clear hk); (try clear hi); (try clear ho0)) | ((with_reducible refine Ye (N := 5) rfl ?_); (try (refine YD (by rfl) ?_; dsimp only)); refine Yf ?hg (N := 5) ?hd (cs := #[.int .i64 0, .slice none 0 0]) (t := 24) ?hr ?_; (case hd => rfl); (case hg => rfl); (case hr => first | (go_simp; done) | (go_simp; rfl)); intro g_2 hg w122 hbox hb; have n0_ := Y0.mk (Kd.R_below (Kd.rU O_0.out) hb); have n1_ := Y0.mk (Y3 (bU B_0.out) hb); have n2_ := Y0.mk (Y3 (bU B_2.out) hb); have n3_ := Y0.mk (Y5 (hU HB.out) hb); have n4_ := Y0.mk (hbox); have n5_ := gE hg HB; have n6_ := gE hg HB; have n7_ := gL hg B_0; have n8_ := gG hg B_0; have n9_ := gL hg B_2; have n10_ := gG hg B_2; clear O_0; clear B_0; clear B_2; clear HB; have O_0 := n0_; have B_0 := n1_; have B_2 := n2_; have HB := n3_; have B_3 := n4_; have W_3 := n5_; have G_3 := n6_; have N_4 := n7_; have N_g := n8_; have N_7 := n9_; have N_f := n10_; clear n0_ n1_ n2_ n3_ n4_ n5_ n6_ n7_ n8_ n9_ n10_; clear hb hbox hg; have hnb123 := N_g.out; have hnc123 := N_4.out; have hnb124 := N_f.out; have hnc124 := N_7.out; have z_m := Y2 B_3.out; have f_h := Y4 B_3.out; obtain ⟨Ao126, co126, eo126⟩ := Kd.R_slice O_0.out; subst eo126) | ((with_reducible refine Yd (f := 18) rfl ?_); refine goesA (some 34) Try.func18 #[] ?_; (with_reducible refine (Ya.calls k  t_9 _ A111.out).mono ?_); rintro e w127 ⟨rfl, hb⟩; refine ⟨_, rfl, ?_⟩; have n0_ := Y0.mk (Kd.R_below (by (with_reducible repeat (first | apply Kd.R_alloc | apply Kd.R_drewN | apply Kd.R_drew)); exact (Kd.R_mono (Kd.R_far (p := ⟨g_2, 1, none⟩) (Kd.R_far (p := ⟨g_2, 0, none⟩) (Kd.R_types O_0.out B_3.out (by decide)) (fun _ hk => hk.2) (.int .i64 t_2)) (fun _ hk => hk.2) (.slice Ao126 t_1.length co126)) (fun _ h_ => h_.1))) hb); have n1_ := Y0.mk (Y3 (g := g_3) (o := .cells #[.int .i64 a0_0, .slice A0_1 l0_1.length c0_1] 24 (0, 0)) (by (with_reducible repeat (first | refine Y8 ?_ _ | refine Y7 ?_ | refine Y6 ?_ _)); refine (Below.heap_setCell _ ⟨_, _, none⟩ _ _ N_4.out).trans ?_; (with_reducible repeat (first | refine Y8 ?_ _ | refine Y7 ?_ | refine Y6 ?_ _)); refine (Below.heap_setCell _ ⟨_, _, none⟩ _ _ N_4.out).trans ?_; (with_reducible repeat (first | refine Y8 ?_ _ | refine Y7 ?_ | refine Y6 ?_ _)); exact B_0.out) hb); have n2_ := Y0.mk (Y3 (g := g_4) (o := .cells #[.int .i64 a1_0, .slice A1_1 l1_1.length c1_1] 24 (0, 0)) (by (with_reducible repeat (first | refine Y8 ?_ _ | refine Y7 ?_ | refine Y6 ?_ _)); refine (Below.heap_setCell _ ⟨_, _, none⟩ _ _ N_7.out).trans ?_; (with_reducible repeat (first | refine Y8 ?_ _ | refine Y7 ?_ | refine Y6 ?_ _)); refine (Below.heap_setCell _ ⟨_, _, none⟩ _ _ N_7.out).trans ?_; (with_reducible repeat (first | refine Y8 ?_ _ | refine Y7 ?_ | refine Y6 ?_ _)); exact B_2.out) hb); have n3_ := Y0.mk (Y3 (g := g_2) (o := .cells #[.int .i64 t_2, .slice Ao126 t_1.length co126] 24 (0, 0)) (by (with_reducible repeat (first | refine Y8 ?_ _ | refine Y7 ?_ | refine Y6 ?_ _)); refine Yn (cs := #[.int .i64 t_2, .slice none 0 0]) ?_ 1 _ rfl; (with_reducible repeat (first | refine Y8 ?_ _ | refine Y7 ?_ | refine Y6 ?_ _)); refine Yn (cs := #[.int .i64 0, .slice none 0 0]) ?_ 0 _ rfl; (with_reducible repeat (first | refine Y8 ?_ _ | refine Y7 ?_ | refine Y6 ?_ _)); exact B_3.out) hb); have n4_ := Y0.mk (Y5 (hU HB.out) hb); clear O_0; clear B_0; clear B_2; clear B_3; clear HB; have O_0 := n0_; have B_0 := n1_; have B_2 := n2_; have B_3 := n3_; have HB := n4_; clear n0_ n1_ n2_ n3_ n4_; (try clear hb); (try clear hb2); (try clear hk); (try clear hi)))
        go_ret
        exact ⟨reT, hU HB.out⟩
end Go.Proofs.Yteopkkoblbmggaa.P
end

/- Texts of this claim in one: VP41; no condition. -/
import Derived.Test.YteopkkoblbmggaaCAC
import Derived.Test.YteopkkoblbmggaaCAE
import Derived.Test.YteopkkoblbmggaaCAR
import Derived.Test.YteopkkoblbmggaaCAS
import Derived.Test.YteopkkoblbmggaaCAT
import Derived.Test.YteopkkoblbmggaaCAU
section
namespace Go.Proofs.Yteopkkoblbmggaa.P
open Go.RowKit Go.Proofs.YteopkkoblbmggaaW.PrintWords Go.Proofs.YteopkkoblbmggaaW.PrintLast Go.Proofs.YteopkkoblbmggaaW.PrintMore
attribute [local go_sem] YU YW Y14 Y15 YJ YK YV YX
set_option linter.unusedVariables false
set_option linter.unusedSimpArgs false
mutual
def Yc.j0 : Nat → Int → Int → Bool → Int → List (S30) → Option ((List (S28)) × (List (S26)) × Int)
 | 0, _, _, _, _, _ => none
 | k + 1, x1, x2, x27, x_1, x_0 => if x27 = true then (some (([] : List (S28)), ([] : List (S26)), 33)) else (if x2 < 1 then (Yc.j1 k x1 x2 true x_1 x_0) else (Yc.j1 k x1 x2 (decide (x2 > 8192)) x_1 x_0))
def Yc.j1 : Nat → Int → Int → Bool → Int → List (S30) → Option ((List (S28)) × (List (S26)) × Int)
 | 0, _, _, _, _, _ => none
 | k + 1, x1, x2, x33, x_1, x_0 => if x33 = true then (some (([] : List (S28)), ([] : List (S26)), 1)) else ((Ya.f k x_0 x1).bind fun t_0 => (Yc.l0 k x1 x2 ([] : List (S28)) ([] : List (S26)) t_0 0 x_1 x_0))
def Yc.l0 : Nat → Int → Int → List (S28) → List (S26) → List (S26) → Int → Int → List (S30) → Option ((List (S28)) × (List (S26)) × Int)
 | 0, _, _, _, _, _, _, _, _ => none
 | k + 1, x1, x2, x10, x11, x12, x13, x_1, x_0 => if x13 < (x12.length : Int) then (if 0 ≤ x13 then ((Yr.f k x_0 x1 ((Yx x12 x13).f0) ((Yx x12 x13).f1)).bind fun b_0 => (if b_0.2.2.2.2.2.1 = true then (Yc.l0 k x1 x2 x10 x11 x12 (wrap64 (x13 + 1)) x_1 x_0) else (if (wrap64 (b_0.2.2.2.2.2.2.2.2.1 + b_0.2.2.2.2.2.2.2.2.2.1)) ≤ x2 then ((Yq.f k x10 b_0.2.2.2.2.2.2.1 b_0.2.2.2.2.2.2.2.1 b_0.2.2.2.2.2.2.2.2.1 b_0.2.2.2.2.2.2.2.2.2.1 b_0.2.2.2.2.2.2.2.2.2.2.1 b_0.2.2.2.2.2.2.2.2.2.2.2.1 b_0.2.2.2.2.2.2.2.2.2.2.2.2.1).bind fun t_h => (if t_h = true then (if (x10.length : Int) < 256 then (if x10.length < 2513169434916 then (Yc.l0 k x1 x2 (x10 ++ [(⟨b_0.2.2.2.2.2.2.1, b_0.2.2.2.2.2.2.2.1, b_0.2.2.2.2.2.2.2.2.1, b_0.2.2.2.2.2.2.2.2.2.1, b_0.2.2.2.2.2.2.2.2.2.2.1, b_0.2.2.2.2.2.2.2.2.2.2.2.1, b_0.2.2.2.2.2.2.2.2.2.2.2.2.1⟩ : S28)]) x11 x12 (wrap64 (x13 + 1)) x_1 x_0) else (none)) else (if x11.length < 8796093022208 then (Yc.l0 k x1 x2 x10 (x11 ++ [(⟨(Yx x12 x13).f0, (Yx x12 x13).f1⟩ : S26)]) x12 (wrap64 (x13 + 1)) x_1 x_0) else (none))) else (if x11.length < 8796093022208 then (Yc.l0 k x1 x2 x10 (x11 ++ [(⟨(Yx x12 x13).f0, (Yx x12 x13).f1⟩ : S26)]) x12 (wrap64 (x13 + 1)) x_1 x_0) else (none)))) else (if x11.length < 8796093022208 then (Yc.l0 k x1 x2 x10 (x11 ++ [(⟨(Yx x12 x13).f0, (Yx x12 x13).f1⟩ : S26)]) x12 (wrap64 (x13 + 1)) x_1 x_0) else (none))))) else (none)) else ((Yd.f k x10).bind fun t_g => (some (t_g, x11, 0)))
end
def Yc.f (k : Nat) (a0_0 : Int) (l0_1 : List (S30)) (a1 : Int) (a2 : Int) : Option ((List (S28)) × (List (S26)) × Int) := (Y9.f k a0_0 l0_1).bind fun t_d => (if t_d = 0 then (if a1 < 0 then (Yc.j0 k a1 a2 true a0_0 l0_1) else (Yc.j0 k a1 a2 (decide (a1 > 11)) a0_0 l0_1)) else (some (([] : List (S28)), ([] : List (S26)), t_d)))
theorem Yc.mono_l : ∀ k, (∀ y0 y1 y2 y3 y4, LeO (Yc.j0 k y0 y1 y2 y3 y4) (Yc.j0 (k + 1) y0 y1 y2 y3 y4)) ∧ (∀ y0 y1 y2 y3 y4, LeO (Yc.j1 k y0 y1 y2 y3 y4) (Yc.j1 (k + 1) y0 y1 y2 y3 y4)) ∧ (∀ y0 y1 y2 y3 y4 y5 y6 y7, LeO (Yc.l0 k y0 y1 y2 y3 y4 y5 y6 y7) (Yc.l0 (k + 1) y0 y1 y2 y3 y4 y5 y6 y7))
 | 0 => ⟨fun _ _ _ _ _ r h => by simp [Yc.j0] at h, fun _ _ _ _ _ r h => by simp [Yc.j1] at h, fun _ _ _ _ _ _ _ _ r h => by simp [Yc.l0] at h⟩
 | k + 1 => by
  obtain ⟨ih0, ih1, ih2⟩ := Yc.mono_l k
  refine ⟨?_, ?_, ?_⟩
  ·intro y0 y1 y2 y3 y4
   unfold Yc.j0
   repeat' first
   | (with_reducible exact ih0 _ _ _ _ _)
   | (with_reducible exact ih1 _ _ _ _ _)
   | (with_reducible exact ih2 _ _ _ _ _ _ _ _)
   | (with_reducible exact Yd.mono _ _)
   | (with_reducible exact Y9.mono _ _ _)
   | (with_reducible exact Ya.mono _ _ _)
   | (with_reducible exact Yq.mono _ _ _ _ _ _ _ _ _)
   | (with_reducible exact Yr.mono _ _ _ _ _)
   | (with_reducible exact LeO.refl _)
   | (with_reducible exact LeO.none _)
   | (with_reducible refine LeO.ite ?_ ?_)
   | (with_reducible refine LeO.bind ?_ (fun _ => ?_))
  ·intro y0 y1 y2 y3 y4
   unfold Yc.j1
   repeat' first
   | (with_reducible exact ih0 _ _ _ _ _)
   | (with_reducible exact ih1 _ _ _ _ _)
   | (with_reducible exact ih2 _ _ _ _ _ _ _ _)
   | (with_reducible exact Yd.mono _ _)
   | (with_reducible exact Y9.mono _ _ _)
   | (with_reducible exact Ya.mono _ _ _)
   | (with_reducible exact Yq.mono _ _ _ _ _ _ _ _ _)
   | (with_reducible exact Yr.mono _ _ _ _ _)
   | (with_reducible exact LeO.refl _)
   | (with_reducible exact LeO.none _)
   | (with_reducible refine LeO.ite ?_ ?_)
   | (with_reducible refine LeO.bind ?_ (fun _ => ?_))
  ·intro y0 y1 y2 y3 y4 y5 y6 y7
   unfold Yc.l0
   repeat' first
   | (with_reducible exact ih0 _ _ _ _ _)
   | (with_reducible exact ih1 _ _ _ _ _)
   | (with_reducible exact ih2 _ _ _ _ _ _ _ _)
   | (with_reducible exact Yd.mono _ _)
   | (with_reducible exact Y9.mono _ _ _)
   | (with_reducible exact Ya.mono _ _ _)
   | (with_reducible exact Yq.mono _ _ _ _ _ _ _ _ _)
   | (with_reducible exact Yr.mono _ _ _ _ _)
   | (with_reducible exact LeO.refl _)
   | (with_reducible exact LeO.none _)
   | (with_reducible refine LeO.ite ?_ ?_)
   | (with_reducible refine LeO.bind ?_ (fun _ => ?_))
theorem Yc.mono : ∀ a0 a1 a2 a3 k, LeO (Yc.f k a0 a1 a2 a3) (Yc.f (k + 1) a0 a1 a2 a3) := by
 intro a0 a1 a2 a3 k
 obtain ⟨ih0, ih1, ih2⟩ := Yc.mono_l k
 unfold Yc.f
 repeat' first
   | (with_reducible exact ih0 _ _ _ _ _)
   | (with_reducible exact ih1 _ _ _ _ _)
   | (with_reducible exact ih2 _ _ _ _ _ _ _ _)
   | (with_reducible exact Yd.mono _ _)
   | (with_reducible exact Y9.mono _ _ _)
   | (with_reducible exact Ya.mono _ _ _)
   | (with_reducible exact Yq.mono _ _ _ _ _ _ _ _ _)
   | (with_reducible exact Yr.mono _ _ _ _ _)
   | (with_reducible exact LeO.refl _)
   | (with_reducible exact LeO.none _)
   | (with_reducible refine LeO.ite ?_ ?_)
   | (with_reducible refine LeO.bind ?_ (fun _ => ?_))
def Yc.T14 : Bool × List (List Nat × List Nat) := (true, [([], []), ([0], [0]), ([], []), ([], []), ([], []), ([3, 4], [3, 4]), ([5], [5]), ([1, 2, 6], [1, 2, 6]), ([7], [7]), ([8], [8]), ([8], [8]), ([], []), ([11, 9, 7, 0, 1, 2, 3, 4, 5, 6, 7, 8, 9, 11], [9, 11]), ([10, 12, 0, 1, 2, 3, 4, 5, 6, 7, 8, 9, 10, 11, 12], [10])])
def Yc.B14 : List Nat := [0, 1, 0, 0, 0, 24, 56, 127, 255, 511, 511, 0, 3071, 8191]
theorem Yc.tab14 : rtab .any (opsOf Try.f24 14) = Yc.T14 := by kernel_rfl
theorem Yc.bits14 : Y1z Yc.T14.2 Yc.B14 = true := by kernel_rfl
set_option maxHeartbeats 8000000 in
set_option maxRecDepth 100000 in
theorem Yc.calls (k : Nat) (a0_0 : Int) (A0_1 : Option Addr) (c0_1 : Nat) (l0_1 : List (S30)) (a1 : Int) (a2 : Int) (r1 : List (S28)) (r2 : List (S26)) (r3 : Int) (w : World) (hr0_1 : Kd.C k30 w A0_1 l0_1.length l0_1) (hc0_1 : l0_1.length ≤ c0_1) (h : Yc.f k a0_0 l0_1 a1 a2 = some (r1, r2, r3)) :
  Calls Try.prog 24 #[.agg #[.int .i64 a0_0, .slice A0_1 l0_1.length c0_1], .int .i64 a1, .int .i64 a2] w fun e w' => ∃ v0_ v1_ : Value, e = .returned (.tuple #[v0_, v1_, .int .i64 r3]) ∧ Kd.R k28 28 w' w.heap.size (fun _ => True) v0_ r1 ∧ Kd.R k26 26 w' w.heap.size (fun _ => True) v1_ r2 ∧ Below w.heap.size w w' := by
 have hu24 := Try.underlying24
 have hu26 := Try.underlying26
 have hu30 := Try.underlying30
 have hu28 := Try.underlying28
 have HR0_1 := Y0.mk hr0_1
 have HC0_1 := Y0.mk hc0_1
 clear hr0_1 hc0_1
 have HB := Y0.mk (Below.refl w.heap.size w)
 have H : ((Y9.f k a0_0 l0_1).bind fun t_d => (if t_d = 0 then (if a1 < 0 then (Yc.j0 k a1 a2 true a0_0 l0_1) else (Yc.j0 k a1 a2 (decide (a1 > 11)) a0_0 l0_1)) else (some (([] : List (S28)), ([] : List (S26)), t_d)))) = some (r1, r2, r3) := h
 clear h
 obtain ⟨t_d, A40, H⟩ := bS H
 try dsimp only at H
 have A4 := Y0.mk A40
 clear A40
 by_cases c5 : t_d = 0
 ·rw [if_pos c5] at H
  have c5b0 := bqT c5
  have c5b1 := bnF c5
  clear c5
  have HC6 := Y0.mk H
  clear H
  go_enter Try.func24, Try.ntmps24
  go_upto_region 4 with (first | ((with_reducible refine Yj (N := 3) rfl ?_); (try (refine Y16 (by rfl) ?_; dsimp only)); refine Yl ?hg (N := 3) ?hd (cs := #[.int .i64 a0_0, .slice A0_1 l0_1.length c0_1]) (t := 24) ?hr ?_; (case hd => rfl); (case hg => rfl); (case hr => first | (go_simp; done) | (go_simp; rfl)); intro g_2 hg w7 hbox hb; have n0_ := Y0.mk (Y4 (hU HB.out) hb); have n1_ := Y0.mk (hbox); have n2_ := gE hg HB; have n3_ := gE hg HB; clear HB; have HB := n0_; have B_0 := n1_; have W_2 := n2_; have G_2 := n3_; clear n0_ n1_ n2_ n3_; clear hb hbox hg; have z_0 := Y1 B_0.out; have f_0 := Y3 B_0.out) | ((with_reducible refine Yh (f := 34) rfl ?_); refine goesA (some 18) Try.func34 #[.agg #[.int .i64 a0_0, .slice A0_1 l0_1.length c0_1]] ?_; (with_reducible refine (Y9.calls k a0_0 _ _ l0_1 t_d _ ?side1 ?side2 A4.out).mono ?_); (case side1 => repeat (first | exact (Kd.C_below HR0_1.out HB.out) | (with_reducible refine Kd.C_alloc ?_ _) | (with_reducible refine Kd.C_drewN ?_ _) | (with_reducible refine Kd.C_drew ?_))); (case side2 => exact HC0_1.out); rintro e w9 ⟨rfl, hb⟩; refine ⟨_, rfl, ?_⟩; replace B_0 := Y0.mk (Y2 (bU B_0.out) hb); replace HB := Y0.mk (Y4 (hU HB.out) hb); (try clear hb); (try clear hb2); (try clear hk); (try clear hi)))
  (try simp only [Act.put, List.setIfInBounds_toArray, List.set_cons_zero, List.set_cons_succ])
  go_cut [27] (fun v27 wc => ∃ (kq : Nat) (x27_5 : Bool), v27 = .bool x27_5 ∧ Y0 (Yc.j0 kq a1 a2 x27_5 a0_0 l0_1 = some (r1, r2, r3)) ∧ Y0 (kq ≤ k) ∧ Y0 (wc.heap[g_2]? = some (.cells #[.int .i64 a0_0, (.slice A0_1 l0_1.length c0_1)] 24 (0, 0))) ∧ Y0 (Below w.heap.size w wc))
  case first =>
   have H := HC6.out
   clear HC6
   by_cases c10 : a1 < 0
   ·rw [if_pos c10] at H
    have c10b0 := decide_eq_true c10
    clear c10
    (first | rw [c10b0] | (simp only [i64_w, i32_w]; rw [c10b0]) | skip)
    have H' := Y0.mk H
    clear H
    go_wp2
    go_meet
    case rel => exact ⟨_, (true), reS, H', ⟨by first | omega | exact Nat.le_refl _⟩, ⟨kB B_0⟩, ⟨hU HB.out⟩⟩
   ·rw [if_neg c10] at H
    have c10b0 := decide_eq_false c10
    clear c10
    (first | rw [c10b0] | (simp only [i64_w, i32_w]; rw [c10b0]) | skip)
    have H' := Y0.mk H
    clear H
    go_wp2
    go_meet
    case rel => exact ⟨_, (decide (a1 > 11)), reS, H', ⟨by first | omega | exact Nat.le_refl _⟩, ⟨kB B_0⟩, ⟨hU HB.out⟩⟩
  case rest =>
   clear HC6
   try clear c1
   try clear c2
   try clear p2
   try clear c3
   try clear c5
   try clear c5b0
   try clear c5b1
   try clear c10
   try clear c10b0
   try clear z_0
   try clear z_1
   try clear f_0
   try clear f_1
   obtain ⟨kq, x27_5, rfl, HA, HJ5, B_0, HB⟩ := hcut
   cases kq with
   | zero => exact absurd HA.out (by simp [Yc.j0])
   | succ kj5 =>
    have H := HA.out
    clear HA
    simp only [Yc.j0] at H
    by_cases c11 : x27_5 = true
    ·subst c11
     have H1 : (some (([] : List (S28)), ([] : List (S26)), 33)) = some (r1, r2, r3) := by rw [if_pos rfl] at H; exact H
     clear H
     have H := H1
     clear H1
     simp only [Option.some.injEq, Prod.mk.injEq] at H
     obtain ⟨rfl, rfl, rfl⟩ := H
     go_wp2
     go_ret3
     exact ⟨_, _, reT, by first | exact Kd.R_nil _ _ _ _ _ | exact Kd.N_nil _ _ _ _ _ | exact Kd.V_nil _ _ _ _ _ | exact Kd.Q_nil _ _ _ _ _ | exact Kd.S_nil _ _ _ _ _, by first | exact Kd.R_nil _ _ _ _ _ | exact Kd.N_nil _ _ _ _ _ | exact Kd.V_nil _ _ _ _ _ | exact Kd.Q_nil _ _ _ _ _ | exact Kd.S_nil _ _ _ _ _, hU HB.out⟩
    ·replace c11 := Bool.eq_false_iff.mpr c11
     subst c11
     rw [if_neg (show ¬ (false = true) by decide)] at H
     have HC12 := Y0.mk H
     clear H
     go_upto_region 6 with (fail)
     go_cut [33] (fun v33 wc => ∃ (kq : Nat) (x33_11 : Bool), v33 = .bool x33_11 ∧ Y0 (Yc.j1 kq a1 a2 x33_11 a0_0 l0_1 = some (r1, r2, r3)) ∧ Y0 (kq ≤ kj5) ∧ Y0 (wc.heap[g_2]? = some (.cells #[.int .i64 a0_0, (.slice A0_1 l0_1.length c0_1)] 24 (0, 0))) ∧ Y0 (Below w.heap.size w wc))
     case first =>
      have H := HC12.out
      clear HC12
      by_cases c13 : a2 < 1
      ·rw [if_pos c13] at H
       have c13b0 := decide_eq_true c13
       clear c13
       (first | rw [c13b0] | (simp only [i64_w, i32_w]; rw [c13b0]) | skip)
       have H' := Y0.mk H
       clear H
       go_wp2
       go_meet
       case rel => exact ⟨_, (true), reS, H', ⟨by have := HJ5.out; first | omega | exact Nat.le_refl _⟩, ⟨kB B_0⟩, ⟨hU HB.out⟩⟩
      ·rw [if_neg c13] at H
       have c13b0 := decide_eq_false c13
       clear c13
       (first | rw [c13b0] | (simp only [i64_w, i32_w]; rw [c13b0]) | skip)
       have H' := Y0.mk H
       clear H
       go_wp2
       go_meet
       case rel => exact ⟨_, (decide (a2 > 8192)), reS, H', ⟨by have := HJ5.out; first | omega | exact Nat.le_refl _⟩, ⟨kB B_0⟩, ⟨hU HB.out⟩⟩
     case rest =>
      clear HC12
      try clear c1
      try clear c2
      try clear p2
      try clear c3
      try clear c5
      try clear c5b0
      try clear c5b1
      try clear c10
      try clear c10b0
      try clear c11
      try clear c13
      try clear c13b0
      try clear z_0
      try clear z_1
      try clear f_0
      try clear f_1
      try clear p2
      obtain ⟨kq, x33_11, rfl, HA, HJ11, B_0, HB⟩ := hcut
      cases kq with
      | zero => exact absurd HA.out (by simp [Yc.j1])
      | succ kj11 =>
       have H := HA.out
       clear HA
       simp only [Yc.j1] at H
       by_cases c14 : x33_11 = true
       ·subst c14
        have H1 : (some (([] : List (S28)), ([] : List (S26)), 1)) = some (r1, r2, r3) := by rw [if_pos rfl] at H; exact H
        clear H
        have H := H1
        clear H1
        simp only [Option.some.injEq, Prod.mk.injEq] at H
        obtain ⟨rfl, rfl, rfl⟩ := H
        go_wp2
        go_ret3
        exact ⟨_, _, reT, by first | exact Kd.R_nil _ _ _ _ _ | exact Kd.N_nil _ _ _ _ _ | exact Kd.V_nil _ _ _ _ _ | exact Kd.Q_nil _ _ _ _ _ | exact Kd.S_nil _ _ _ _ _, by first | exact Kd.R_nil _ _ _ _ _ | exact Kd.N_nil _ _ _ _ _ | exact Kd.V_nil _ _ _ _ _ | exact Kd.Q_nil _ _ _ _ _ | exact Kd.S_nil _ _ _ _ _, hU HB.out⟩
       ·replace c14 := Bool.eq_false_iff.mpr c14
        subst c14
        rw [if_neg (show ¬ (false = true) by decide)] at H
        obtain ⟨t_0, A150, H⟩ := bS H
        replace H : (Yc.l0 kj11 a1 a2 ([] : List (S28)) ([] : List (S26)) t_0 0 a0_0 l0_1) = some (r1, r2, r3) := H
        have A15 := Y0.mk A150
        clear A150
        have H' := Y0.mk H
        clear H
        have z_2 := Y1 B_0.out
        have f_2 := Y3 B_0.out
        go_wp2_with (first | ((with_reducible refine Yh (f := 71) rfl ?_); refine goesA (some 37) Try.func71 #[.slice A0_1 l0_1.length c0_1, .int .i64 a1] ?_; (with_reducible refine (Ya.calls kj11 _ _ l0_1 a1 t_0 _ ?side1 ?side2 A15.out).mono ?_); (case side1 => repeat (first | exact (Kd.C_below HR0_1.out HB.out) | (with_reducible refine Kd.C_alloc ?_ _) | (with_reducible refine Kd.C_drewN ?_ _) | (with_reducible refine Kd.C_drew ?_))); (case side2 => exact HC0_1.out); rintro e w17 ⟨v_0, rfl, ho0, hb⟩; refine ⟨_, rfl, ?_⟩; replace O_0 := Y0.mk (Kd.R_lower ho0 (Yn (hU HB.out))); replace B_0 := Y0.mk (Y2 (bU B_0.out) hb); replace HB := Y0.mk (Y4 (hU HB.out) hb); (try clear hb); (try clear hb2); (try clear hk); (try clear hi); (try clear ho0)))
        go_loopg [10, 11, 13] kj11 (fun kq v10 v11 v13 w' => ∃ (x10_3 : List (S28)) (x11_3 : List (S26)) (x13_3 : Int), v13 = .int .i64 x13_3 ∧ Y0 (Yc.l0 kq a1 a2 x10_3 x11_3 t_0 x13_3 a0_0 l0_1 = some (r1, r2, r3)) ∧ Y0 (kq ≤ kj11) ∧ Y0 (Kd.R k28 28 w' w.heap.size (fun _ => True) v10 x10_3) ∧ Y0 (Kd.R k26 26 w' w.heap.size (fun k_ => some k_ ≠ (v_0 : Value).ownBlock) v11 x11_3) ∧ Y0 (Kd.R k26 26 w' w.heap.size (fun k_ => some k_ ≠ (v11 : Value).ownBlock) v_0 t_0) ∧ Y0 (w'.heap[g_2]? = some (.cells #[.int .i64 a0_0, (.slice A0_1 l0_1.length c0_1)] 24 (0, 0))) ∧ Y0 (Below w.heap.size w w'))
        case atStart => exact ⟨(([] : List (S28))), (([] : List (S26))), (0), reS, H', ⟨Nat.le_refl _⟩, ⟨by first | exact Kd.R_nil _ _ _ _ _ | exact Kd.N_nil _ _ _ _ _ | exact Kd.V_nil _ _ _ _ _ | exact Kd.Q_nil _ _ _ _ _ | exact Kd.S_nil _ _ _ _ _⟩, ⟨by first | exact Kd.R_nil _ _ _ _ _ | exact Kd.N_nil _ _ _ _ _ | exact Kd.V_nil _ _ _ _ _ | exact Kd.Q_nil _ _ _ _ _ | exact Kd.S_nil _ _ _ _ _⟩, ⟨by (with_reducible repeat (first | apply Kd.R_alloc | apply Kd.R_drewN | apply Kd.R_drew)); exact Kd.R_mono O_0.out (fun _ hk => (by simp [Value.ownBlock]))⟩, ⟨kB B_0⟩, ⟨hU HB.out⟩⟩
        case round =>
         clear H'
         try clear c1
         try clear c2
         try clear p2
         try clear c3
         try clear c5
         try clear c5b0
         try clear c5b1
         try clear c7
         try clear c10
         try clear c10b0
         try clear c11
         try clear c13
         try clear c13b0
         try clear c14
         try clear z_2
         try clear z_a
         try clear z_0
         try clear z_1
         try clear f_2
         try clear f_a
         try clear f_0
         try clear f_1
         try clear p2
         obtain ⟨x10_3, x11_3, x13_3, rfl, HA, HK3, HO_10, HO_11, HO_12, B_0, HB⟩ := hrel
         cases gk with
         | zero => exact absurd HA.out (by simp [Yc.l0])
         | succ k3 =>
          have H := HA.out
          clear HA
          simp only [Yc.l0] at H
          by_cases c18 : x13_3 < (t_0.length : Int)
          ·rw [if_pos c18] at H
           have c18b0 := decide_eq_true c18
           clear c18
           obtain ⟨c19, H⟩ := iS H
           have c19b0 := decide_eq_true c19
           clear c19
           obtain ⟨⟨t_c, t_8, t_a, t_b, t_9, t_e, t_4, t_5, t_2, t_1, t_6, t_7, t_3, t_f⟩, A200, H⟩ := bS H
           try dsimp only at H
           have A20 := Y0.mk A200
           clear A200
           have H' := Y0.mk H
           clear H
           obtain ⟨Ao22, co22, eo22⟩ := Kd.R_slice HO_12.out
           subst eo22
           try go_wp2
           replace HO_10 := Y0.mk (Kd.R_drew HO_10.out)
           replace HO_11 := Y0.mk (Kd.R_drew HO_11.out)
           replace HO_12 := Y0.mk (Kd.R_drew HO_12.out)
           replace B_0 := Y0.mk (Y8 B_0.out)
           replace HB := Y0.mk (Yy HB.out)
           have p641 : 0 ≤ (x13_3 : Int) := of_decide_eq_true (by first | (with_reducible assumption) | assumption)
           have q641 : x13_3 < (t_0.length : Int) := of_decide_eq_true (by first | (with_reducible assumption) | assumption)
           obtain ⟨d_0, e641, m_3, m_2⟩ := Y1Z (Kd.R_reads' HO_12.out).2.2 x13_3 p641 q641
           cases e641
           replace p641 := eq_true p641
           replace q641 := eq_true q641
           refine Y1i (n := 14) (S := fun w' => w'.cell? ⟨g_2, 0, none⟩ = some (.int .i64 a0_0) ∧ w'.cell? ⟨g_2, 1, none⟩ = some (.slice A0_1 l0_1.length c0_1) ∧ w'.cell? (d_0.add ((x13_3).toNat * 2)) = some (.int .i64 ((Yx t_0 x13_3).f0)) ∧ w'.cell? ⟨(d_0.add ((x13_3).toNat * 2)).block, (d_0.add ((x13_3).toNat * 2)).off + 1, none⟩ = some (.int .i64 ((Yx t_0 x13_3).f1))) (ds := []) #[false, false, false, false, false, false, false, false, false, false, false, false, false, false] (by kernel_rfl) rfl rfl ⟨(Y1 B_0.out 0).trans rfl, (Y1 B_0.out 1).trans rfl, m_3, m_2⟩ (fun hHeld => ?_); refine Y10 Yc.tab14 Yc.bits14 (fun HT_ HW_ => ?_)
           generalize wr.drew = w23 at HO_10 HO_11 HO_12 B_0 HB m_3 m_2 hHeld ⊢
           refine puA 0 45 (bs 14 1) ?_
           refine puA 2 47 (bs 14 5) ?_
           refine puA 3 48 (bs 14 13) ?_
           refine puA 4 49 (bs 14 29) ?_
           refine puA 5 50 (bs 14 61) ?_
           refine tkA 1 46 (bs 14 63) hHeld ?_
           refine tkA 6 51 (bs 14 127) hHeld ?_
           refine join_ (σ := Nat) 2 #[true, true, true, true, true, true, true, true, true, true, true, true, false, false] (fun s_ => [(52, .tuple #[.agg #[.int .i64 t_c, .int .i64 t_8, .int .i64 t_a, .int .i64 t_b, .int .i64 t_9, .bool t_e, .int .i64 t_4, .int .i64 t_5, .int .i64 t_2, .int .i64 t_1, .int .i64 t_6, .int .i64 t_7, .int .i64 t_3], .bool t_f]), (14, .pointer (some ⟨s_, 0, none⟩)), (44, .tuple #[.agg #[.int .i64 t_c, .int .i64 t_8, .int .i64 t_a, .int .i64 t_b, .int .i64 t_9, .bool t_e, .int .i64 t_4, .int .i64 t_5, .int .i64 t_2, .int .i64 t_1, .int .i64 t_6, .int .i64 t_7, .int .i64 t_3], .bool t_f]), (53, .agg #[.int .i64 t_c, .int .i64 t_8, .int .i64 t_a, .int .i64 t_b, .int .i64 t_9, .bool t_e, .int .i64 t_4, .int .i64 t_5, .int .i64 t_2, .int .i64 t_1, .int .i64 t_6, .int .i64 t_7, .int .i64 t_3]), (54, .bool t_f)]) (fun s_ w' => (w'.cell? ⟨g_2, 0, none⟩ = some (.int .i64 a0_0) ∧ w'.cell? ⟨g_2, 1, none⟩ = some (.slice A0_1 l0_1.length c0_1) ∧ w'.cell? (d_0.add ((x13_3).toNat * 2)) = some (.int .i64 ((Yx t_0 x13_3).f0)) ∧ w'.cell? ⟨(d_0.add ((x13_3).toNat * 2)).block, (d_0.add ((x13_3).toNat * 2)).off + 1, none⟩ = some (.int .i64 ((Yx t_0 x13_3).f1))) ∧ (Kd.R k28 28 w' w.heap.size (fun _ => True) u10 x10_3) ∧ (Kd.R k26 26 w' w.heap.size (fun k_ => some k_ ≠ (.slice (some d_0) t_0.length co22 : Value).ownBlock) u11 x11_3) ∧ (Kd.R k26 26 w' w.heap.size (fun k_ => some k_ ≠ (u11 : Value).ownBlock) (.slice (some d_0) t_0.length co22) t_0) ∧ (w'.heap[g_2]? = some (.cells #[.int .i64 a0_0, .slice A0_1 l0_1.length c0_1] 24 (0, 0))) ∧ (w'.heap[s_]? = some (.cells #[.int .i64 0, .int .i64 0, .int .i64 0, .int .i64 0, .int .i64 0, .bool false, .int .i64 0, .int .i64 0, .int .i64 0, .int .i64 0, .int .i64 0, .int .i64 0, .int .i64 0] 30 (0, 0))) ∧ (w.heap.size ≤ s_) ∧ (w.heap.size ≤ s_) ∧ (g_2 ≠ s_) ∧ (s_ ≠ g_2) ∧ (Below w.heap.size w w')) ?_ ?_
           rotate_left
           ·intro hCont
            refine two_ (i := 7) (j := 11) (Ni := some 52) (Nj := some 14) #[true, true, true, true, true, true, true, true, false, false, false, false, false, false] #[true, true, true, true, true, true, true, false, false, false, false, true, false, false] rfl rfl rfl rfl (Y1N HT_.out (by kernel_rfl)) (by decide) (by decide) (fun K hK => ?_) (fun K hK => ?_)
            ·skip
             refine goes_ Try.func72 (by kernel_rfl) rfl #[.slice A0_1 l0_1.length c0_1, .int .i64 a1, .agg #[.int .i64 ((Yx t_0 x13_3).f0), .int .i64 ((Yx t_0 x13_3).f1)]] (by rfl) rfl rfl (by (try simp only [List.map_toArray, List.map_cons, List.map_nil]); first | done | rfl | (simp only [List.length_drop, List.length_take]; rfl)) ?_
             with_reducible refine (Yr.calls k3 _ _ l0_1 a1 ((Yx t_0 x13_3).f0) ((Yx t_0 x13_3).f1) t_c t_8 t_a t_b t_9 t_e t_4 t_5 t_2 t_1 t_6 t_7 t_3 t_f _ ?side1 ?side2 A20.out).mono ?_
             (case side1 => repeat (first | exact (Kd.C_below HR0_1.out HB.out) | (with_reducible refine Kd.C_alloc ?_ _) | (with_reducible refine Kd.C_drewN ?_ _) | (with_reducible refine Kd.C_drew ?_)))
             (case side2 => exact HC0_1.out)
             rintro e w24 ⟨rfl, hb⟩
             have HS2_ := (hb.cell (World.block_lt_of_cell? _ _ (hHeld.2.2.1))).trans (hHeld.2.2.1)
             have HS3_ := (hb.cell (World.block_lt_of_cell? _ _ (hHeld.2.2.2))).trans (hHeld.2.2.2)
             refine ⟨_, rfl, ?_⟩
             replace HO_10 := Y0.mk (Kd.R_below (Kd.rU HO_10.out) hb)
             replace HO_11 := Y0.mk (Kd.R_below (Kd.rU HO_11.out) hb)
             replace HO_12 := Y0.mk (Kd.R_below (Kd.rU HO_12.out) hb)
             replace B_0 := Y0.mk (Y2 (bU B_0.out) hb)
             replace HB := Y0.mk (Y4 (hU HB.out) hb)
             (try clear hb)
             (try clear hb2)
             (try clear hk)
             (try clear hi)
             refine hK.out _ _ ⟨(Y1 B_0.out 0).trans rfl, (Y1 B_0.out 1).trans rfl, HS2_, HS3_⟩ (fun hHeld => ?_)
             clear hK K
             refine nmA 52 ?_
             refine puA 8 44 (bs 14 511) ?_
             refine puA 9 53 (bs 14 1023) ?_
             refine puA 10 54 (bs 14 2047) ?_
             refine one_ (i := 11) (N := some 14) (bs 14 4095) rfl rfl (YZ HT_.out (by kernel_rfl)) (by decide) (fun K hK => ?_)
             refine Y1e ?hg (N := 14) ?hd (cs := #[.int .i64 0, .int .i64 0, .int .i64 0, .int .i64 0, .int .i64 0, .bool false, .int .i64 0, .int .i64 0, .int .i64 0, .int .i64 0, .int .i64 0, .int .i64 0, .int .i64 0]) (t := 30) ?hr ?_; (case hd => rfl); (case hg => rfl); (case hr => first | (go_simp; done) | (go_simp; rfl))
             intro g_1 hg w25 hbox hb
             have HS2_ := (hb.cell (World.block_lt_of_cell? _ _ (hHeld.2.2.1))).trans (hHeld.2.2.1)
             have HS3_ := (hb.cell (World.block_lt_of_cell? _ _ (hHeld.2.2.2))).trans (hHeld.2.2.2)
             have n0_ := Y0.mk (Kd.R_below (Kd.rU HO_10.out) hb)
             have n1_ := Y0.mk (Kd.R_below (Kd.rU HO_11.out) hb)
             have n2_ := Y0.mk (Kd.R_below (Kd.rU HO_12.out) hb)
             have n3_ := Y0.mk (Y2 (bU B_0.out) hb)
             have n4_ := Y0.mk (Y4 (hU HB.out) hb)
             have n5_ := Y0.mk (hbox)
             have n6_ := gE hg HB
             have n7_ := gE hg HB
             have n8_ := gL hg B_0
             have n9_ := gG hg B_0
             clear HO_10
             clear HO_11
             clear HO_12
             clear B_0
             clear HB
             have HO_10 := n0_
             have HO_11 := n1_
             have HO_12 := n2_
             have B_0 := n3_
             have HB := n4_
             have B_1 := n5_
             have W_0 := n6_
             have G_0 := n7_
             have N_0 := n8_
             have N_1 := n9_
             clear n0_ n1_ n2_ n3_ n4_ n5_ n6_ n7_ n8_ n9_
             clear hb hbox hg
             refine hK.out _ _ ⟨(Y1 B_0.out 0).trans rfl, (Y1 B_0.out 1).trans rfl, HS2_, HS3_⟩ (fun hHeld => ?_)
             clear hK K
             refine nmA 14 ?_
             exact norm_ (by simp only [YM, Act.put, List.setIfInBounds_toArray, List.set_cons_zero, List.set_cons_succ]) (hCont (g_1) _ ⟨hHeld, (Kd.rU HO_10.out), (Kd.rU HO_11.out), (Kd.rU HO_12.out), (bU B_0.out), (bU B_1.out), W_0.out, G_0.out, N_0.out, N_1.out, (hU HB.out)⟩)
            ·skip
             refine Y1e ?hg (N := 14) ?hd (cs := #[.int .i64 0, .int .i64 0, .int .i64 0, .int .i64 0, .int .i64 0, .bool false, .int .i64 0, .int .i64 0, .int .i64 0, .int .i64 0, .int .i64 0, .int .i64 0, .int .i64 0]) (t := 30) ?hr ?_; (case hd => rfl); (case hg => rfl); (case hr => first | (go_simp; done) | (go_simp; rfl))
             intro g_1 hg w24 hbox hb
             have HS2_ := (hb.cell (World.block_lt_of_cell? _ _ (hHeld.2.2.1))).trans (hHeld.2.2.1)
             have HS3_ := (hb.cell (World.block_lt_of_cell? _ _ (hHeld.2.2.2))).trans (hHeld.2.2.2)
             have n0_ := Y0.mk (Kd.R_below (Kd.rU HO_10.out) hb)
             have n1_ := Y0.mk (Kd.R_below (Kd.rU HO_11.out) hb)
             have n2_ := Y0.mk (Kd.R_below (Kd.rU HO_12.out) hb)
             have n3_ := Y0.mk (Y2 (bU B_0.out) hb)
             have n4_ := Y0.mk (Y4 (hU HB.out) hb)
             have n5_ := Y0.mk (hbox)
             have n6_ := gE hg HB
             have n7_ := gE hg HB
             have n8_ := gL hg B_0
             have n9_ := gG hg B_0
             clear HO_10
             clear HO_11
             clear HO_12
             clear B_0
             clear HB
             have HO_10 := n0_
             have HO_11 := n1_
             have HO_12 := n2_
             have B_0 := n3_
             have HB := n4_
             have B_1 := n5_
             have W_0 := n6_
             have G_0 := n7_
             have N_0 := n8_
             have N_1 := n9_
             clear n0_ n1_ n2_ n3_ n4_ n5_ n6_ n7_ n8_ n9_
             clear hb hbox hg
             refine hK.out _ _ ⟨(Y1 B_0.out 0).trans rfl, (Y1 B_0.out 1).trans rfl, HS2_, HS3_⟩ (fun hHeld => ?_)
             clear hK K
             refine nmA 14 ?_
             refine one_ (i := 7) (N := some 52) (bs 14 2303) rfl rfl (YZ HT_.out (by kernel_rfl)) (by decide) (fun K hK => ?_)
             refine goes_ Try.func72 (by kernel_rfl) rfl #[.slice A0_1 l0_1.length c0_1, .int .i64 a1, .agg #[.int .i64 ((Yx t_0 x13_3).f0), .int .i64 ((Yx t_0 x13_3).f1)]] (by rfl) rfl rfl (by (try simp only [List.map_toArray, List.map_cons, List.map_nil]); first | done | rfl | (simp only [List.length_drop, List.length_take]; rfl)) ?_
             with_reducible refine (Yr.calls k3 _ _ l0_1 a1 ((Yx t_0 x13_3).f0) ((Yx t_0 x13_3).f1) t_c t_8 t_a t_b t_9 t_e t_4 t_5 t_2 t_1 t_6 t_7 t_3 t_f _ ?side1 ?side2 A20.out).mono ?_
             (case side1 => repeat (first | exact (Kd.C_below HR0_1.out HB.out) | (with_reducible refine Kd.C_alloc ?_ _) | (with_reducible refine Kd.C_drewN ?_ _) | (with_reducible refine Kd.C_drew ?_)))
             (case side2 => exact HC0_1.out)
             rintro e w25 ⟨rfl, hb⟩
             have HS2_ := (hb.cell (World.block_lt_of_cell? _ _ (hHeld.2.2.1))).trans (hHeld.2.2.1)
             have HS3_ := (hb.cell (World.block_lt_of_cell? _ _ (hHeld.2.2.2))).trans (hHeld.2.2.2)
             refine ⟨_, rfl, ?_⟩
             replace HO_10 := Y0.mk (Kd.R_below (Kd.rU HO_10.out) hb)
             replace HO_11 := Y0.mk (Kd.R_below (Kd.rU HO_11.out) hb)
             replace HO_12 := Y0.mk (Kd.R_below (Kd.rU HO_12.out) hb)
             replace B_0 := Y0.mk (Y2 (bU B_0.out) hb)
             replace B_1 := Y0.mk (Y2 (bU B_1.out) hb)
             replace HB := Y0.mk (Y4 (hU HB.out) hb)
             (try clear hb)
             (try clear hb2)
             (try clear hk)
             (try clear hi)
             refine hK.out _ _ ⟨(Y1 B_0.out 0).trans rfl, (Y1 B_0.out 1).trans rfl, HS2_, HS3_⟩ (fun hHeld => ?_)
             clear hK K
             refine nmA 52 ?_
             refine puA 8 44 (bs 14 2559) ?_
             refine puA 9 53 (bs 14 3071) ?_
             refine puA 10 54 (bs 14 4095) ?_
             exact norm_ (by simp only [YM, Act.put, List.setIfInBounds_toArray, List.set_cons_zero, List.set_cons_succ]) (hCont (g_1) _ ⟨hHeld, (Kd.rU HO_10.out), (Kd.rU HO_11.out), (Kd.rU HO_12.out), (bU B_0.out), (bU B_1.out), W_0.out, G_0.out, N_0.out, N_1.out, (hU HB.out)⟩)
           rintro g_1 w26 ⟨hS_, h0_, h1_, h2_, h3_, h4_, h5_, h6_, h7_, h8_, h9_⟩
           have n0_ : Y0 (Kd.R k28 28 w26 w.heap.size (fun _ => True) u10 x10_3) := ⟨h0_⟩
           have n1_ : Y0 (Kd.R k26 26 w26 w.heap.size (fun k_ => some k_ ≠ (.slice (some d_0) t_0.length co22 : Value).ownBlock) u11 x11_3) := ⟨h1_⟩
           have n2_ : Y0 (Kd.R k26 26 w26 w.heap.size (fun k_ => some k_ ≠ (u11 : Value).ownBlock) (.slice (some d_0) t_0.length co22) t_0) := ⟨h2_⟩
           have n3_ : Y0 (w26.heap[g_2]? = some (.cells #[.int .i64 a0_0, .slice A0_1 l0_1.length c0_1] 24 (0, 0))) := ⟨h3_⟩
           have n4_ : Y0 (w26.heap[g_1]? = some (.cells #[.int .i64 0, .int .i64 0, .int .i64 0, .int .i64 0, .int .i64 0, .bool false, .int .i64 0, .int .i64 0, .int .i64 0, .int .i64 0, .int .i64 0, .int .i64 0, .int .i64 0] 30 (0, 0))) := ⟨h4_⟩
           have n5_ : Y0 (w.heap.size ≤ g_1) := ⟨h5_⟩
           have n6_ : Y0 (w.heap.size ≤ g_1) := ⟨h6_⟩
           have n7_ : Y0 (g_2 ≠ g_1) := ⟨h7_⟩
           have n8_ : Y0 (g_1 ≠ g_2) := ⟨h8_⟩
           have n9_ : Y0 (Below w.heap.size w w26) := ⟨h9_⟩
           clear HO_10
           clear HO_11
           clear HO_12
           clear B_0
           clear HB
           clear h0_ h1_ h2_ h3_ h4_ h5_ h6_ h7_ h8_ h9_
           have HO_10 := n0_
           have HO_11 := n1_
           have HO_12 := n2_
           have B_0 := n3_
           have B_1 := n4_
           have W_0 := n5_
           have G_0 := n6_
           have N_0 := n7_
           have N_1 := n8_
           have HB := n9_
           clear n0_ n1_ n2_ n3_ n4_ n5_ n6_ n7_ n8_ n9_
           have hHeld : w26.cell? ⟨g_2, 0, none⟩ = some (.int .i64 a0_0) ∧ w26.cell? ⟨g_2, 1, none⟩ = some (.slice A0_1 l0_1.length c0_1) ∧ w26.cell? (d_0.add ((x13_3).toNat * 2)) = some (.int .i64 ((Yx t_0 x13_3).f0)) ∧ w26.cell? ⟨(d_0.add ((x13_3).toNat * 2)).block, (d_0.add ((x13_3).toNat * 2)).off + 1, none⟩ = some (.int .i64 ((Yx t_0 x13_3).f1)) := hS_
           refine norm_ (a' := ?_) ?_ ?_
           rotate_left
           ·simp only [YM, Act.put, List.setIfInBounds_toArray, List.set_cons_zero, List.set_cons_succ]
            rfl
           refine one_ (i := 12) (N := none) #[true, true, true, true, true, true, true, true, true, true, true, true, true, false] rfl rfl (YZ HT_.out (by kernel_rfl)) (by decide) (fun K hK => ?_)
           have hs27 : w26.cell? ⟨g_1, 0, none⟩ = some (.int .i64 0) := (Y1 B_1.out 0).trans rfl
           have hfs27 := Y3 B_1.out 0
           have hns27_0 := N_0.out
           have hms27_0 := N_1.out
           have hs28 : w26.cell? ⟨g_1, 1, none⟩ = some (.int .i64 0) := (Y1 B_1.out 1).trans rfl
           have hfs28 := Y3 B_1.out 1
           have hns28_0 := N_0.out
           have hms28_0 := N_1.out
           have hs29 : w26.cell? ⟨g_1, 2, none⟩ = some (.int .i64 0) := (Y1 B_1.out 2).trans rfl
           have hfs29 := Y3 B_1.out 2
           have hns29_0 := N_0.out
           have hms29_0 := N_1.out
           have hs30 : w26.cell? ⟨g_1, 3, none⟩ = some (.int .i64 0) := (Y1 B_1.out 3).trans rfl
           have hfs30 := Y3 B_1.out 3
           have hns30_0 := N_0.out
           have hms30_0 := N_1.out
           have hs31 : w26.cell? ⟨g_1, 4, none⟩ = some (.int .i64 0) := (Y1 B_1.out 4).trans rfl
           have hfs31 := Y3 B_1.out 4
           have hns31_0 := N_0.out
           have hms31_0 := N_1.out
           have hs32 : w26.cell? ⟨g_1, 5, none⟩ = some (.bool false) := (Y1 B_1.out 5).trans rfl
           have hfs32 := Y3 B_1.out 5
           have hns32_0 := N_0.out
           have hms32_0 := N_1.out
           have hs33 : w26.cell? ⟨g_1, 6, none⟩ = some (.int .i64 0) := (Y1 B_1.out 6).trans rfl
           have hfs33 := Y3 B_1.out 6
           have hns33_0 := N_0.out
           have hms33_0 := N_1.out
           have hs34 : w26.cell? ⟨g_1, 7, none⟩ = some (.int .i64 0) := (Y1 B_1.out 7).trans rfl
           have hfs34 := Y3 B_1.out 7
           have hns34_0 := N_0.out
           have hms34_0 := N_1.out
           have hs35 : w26.cell? ⟨g_1, 8, none⟩ = some (.int .i64 0) := (Y1 B_1.out 8).trans rfl
           have hfs35 := Y3 B_1.out 8
           have hns35_0 := N_0.out
           have hms35_0 := N_1.out
           have hs36 : w26.cell? ⟨g_1, 9, none⟩ = some (.int .i64 0) := (Y1 B_1.out 9).trans rfl
           have hfs36 := Y3 B_1.out 9
           have hns36_0 := N_0.out
           have hms36_0 := N_1.out
           have hs37 : w26.cell? ⟨g_1, 10, none⟩ = some (.int .i64 0) := (Y1 B_1.out 10).trans rfl
           have hfs37 := Y3 B_1.out 10
           have hns37_0 := N_0.out
           have hms37_0 := N_1.out
           have hs38 : w26.cell? ⟨g_1, 11, none⟩ = some (.int .i64 0) := (Y1 B_1.out 11).trans rfl
           have hfs38 := Y3 B_1.out 11
           have hns38_0 := N_0.out
           have hms38_0 := N_1.out
           have hs39 : w26.cell? ⟨g_1, 12, none⟩ = some (.int .i64 0) := (Y1 B_1.out 12).trans rfl
           have hfs39 := Y3 B_1.out 12
           have hns39_0 := N_0.out
           have hms39_0 := N_1.out
           refine skip_ (w1 := ?_) (by rfl) rfl ?_ ?_
           rotate_left
           ·go_simp
            rfl
           refine hK.out _ _ ⟨(cf13 (g := g_1) N_0.out (hHeld.1)), (cf13 (g := g_1) N_0.out (hHeld.2.1)), (cf13 (g := g_1) (by first | exact Kd.own_blk (Kd.R_ne HO_12.out B_1.out (by decide)) | (rw [YQ]; exact Kd.own_blk (Kd.R_ne HO_12.out B_1.out (by decide))) | (show (Addr.add _ _).block ≠ _; rw [YQ]; exact Kd.own_blk (Kd.R_ne HO_12.out B_1.out (by decide))) | (dsimp only; exact Kd.own_blk (Kd.R_ne HO_12.out B_1.out (by decide)))) (hHeld.2.2.1)), (cf13 (g := g_1) (by first | exact Kd.own_blk (Kd.R_ne HO_12.out B_1.out (by decide)) | (rw [YQ]; exact Kd.own_blk (Kd.R_ne HO_12.out B_1.out (by decide))) | (show (Addr.add _ _).block ≠ _; rw [YQ]; exact Kd.own_blk (Kd.R_ne HO_12.out B_1.out (by decide))) | (dsimp only; exact Kd.own_blk (Kd.R_ne HO_12.out B_1.out (by decide)))) (hHeld.2.2.2))⟩ (fun hHeld => ?_)
           clear hK K
           refine puA 13 15 (bs 14 16383) ?_
           refine done_ (Y1h HT_.out (by kernel_rfl)) ?_
           have hnb40 := N_1.out
           have hnc40 := N_0.out
           have z_3 := Y1 B_1.out
           have f_6 := Y3 B_1.out
           have H := H'.out
           clear H'
           by_cases c21 : t_e = true
           ·subst c21
            have H1 : (Yc.l0 k3 a1 a2 x10_3 x11_3 t_0 (wrap64 (x13_3 + 1)) a0_0 l0_1) = some (r1, r2, r3) := by rw [if_pos rfl] at H; exact H
            clear H
            have H := H1
            clear H1
            have H' := Y0.mk H
            clear H
            try go_wp2
            go_roundg k3
            case measure => have := HJ5.out; have := HJ11.out; have := HK3.out; omega
            case rel => exact ⟨(x10_3), (x11_3), (wrap64 (x13_3 + 1)), reS, H', ⟨by have := HJ5.out; have := HJ11.out; have := HK3.out; omega⟩, ⟨by (with_reducible repeat (first | apply Kd.R_alloc | apply Kd.R_drewN | apply Kd.R_drew)); exact Kd.R_mono (rf13 (g := g_1) (Kd.R_types HO_10.out B_1.out (by decide)) (fun _ hk => hk.2)) (fun _ hk => trivial)⟩, ⟨by (with_reducible repeat (first | apply Kd.R_alloc | apply Kd.R_drewN | apply Kd.R_drew)); exact Kd.R_mono (rf13 (g := g_1) (Kd.R_types HO_11.out B_1.out (by decide)) (fun _ hk => hk.2)) (fun _ hk => hk.1)⟩, ⟨by (with_reducible repeat (first | apply Kd.R_alloc | apply Kd.R_drewN | apply Kd.R_drew)); exact Kd.R_mono (rf13 (g := g_1) (Kd.R_types HO_12.out B_1.out (by decide)) (fun _ hk => hk.2)) (fun _ hk => hk.1)⟩, ⟨by (with_reducible repeat (first | refine Y6 ?_ _ | refine Y8 ?_ | refine Y5 ?_ _)); refine (Below.heap_setCell _ ⟨_, _, none⟩ _ _ N_0.out).trans ?_; (with_reducible repeat (first | refine Y6 ?_ _ | refine Y8 ?_ | refine Y5 ?_ _)); refine (Below.heap_setCell _ ⟨_, _, none⟩ _ _ N_0.out).trans ?_; (with_reducible repeat (first | refine Y6 ?_ _ | refine Y8 ?_ | refine Y5 ?_ _)); refine (Below.heap_setCell _ ⟨_, _, none⟩ _ _ N_0.out).trans ?_; (with_reducible repeat (first | refine Y6 ?_ _ | refine Y8 ?_ | refine Y5 ?_ _)); refine (Below.heap_setCell _ ⟨_, _, none⟩ _ _ N_0.out).trans ?_; (with_reducible repeat (first | refine Y6 ?_ _ | refine Y8 ?_ | refine Y5 ?_ _)); refine (Below.heap_setCell _ ⟨_, _, none⟩ _ _ N_0.out).trans ?_; (with_reducible repeat (first | refine Y6 ?_ _ | refine Y8 ?_ | refine Y5 ?_ _)); refine (Below.heap_setCell _ ⟨_, _, none⟩ _ _ N_0.out).trans ?_; (with_reducible repeat (first | refine Y6 ?_ _ | refine Y8 ?_ | refine Y5 ?_ _)); refine (Below.heap_setCell _ ⟨_, _, none⟩ _ _ N_0.out).trans ?_; (with_reducible repeat (first | refine Y6 ?_ _ | refine Y8 ?_ | refine Y5 ?_ _)); refine (Below.heap_setCell _ ⟨_, _, none⟩ _ _ N_0.out).trans ?_; (with_reducible repeat (first | refine Y6 ?_ _ | refine Y8 ?_ | refine Y5 ?_ _)); refine (Below.heap_setCell _ ⟨_, _, none⟩ _ _ N_0.out).trans ?_; (with_reducible repeat (first | refine Y6 ?_ _ | refine Y8 ?_ | refine Y5 ?_ _)); refine (Below.heap_setCell _ ⟨_, _, none⟩ _ _ N_0.out).trans ?_; (with_reducible repeat (first | refine Y6 ?_ _ | refine Y8 ?_ | refine Y5 ?_ _)); refine (Below.heap_setCell _ ⟨_, _, none⟩ _ _ N_0.out).trans ?_; (with_reducible repeat (first | refine Y6 ?_ _ | refine Y8 ?_ | refine Y5 ?_ _)); refine (Below.heap_setCell _ ⟨_, _, none⟩ _ _ N_0.out).trans ?_; (with_reducible repeat (first | refine Y6 ?_ _ | refine Y8 ?_ | refine Y5 ?_ _)); refine (Below.heap_setCell _ ⟨_, _, none⟩ _ _ N_0.out).trans ?_; (with_reducible repeat (first | refine Y6 ?_ _ | refine Y8 ?_ | refine Y5 ?_ _)); exact B_0.out⟩, ⟨hU HB.out⟩⟩
           ·replace c21 := Bool.eq_false_iff.mpr c21
            subst c21
            rw [if_neg (show ¬ (false = true) by decide)] at H
            by_cases c42 : (wrap64 (t_2 + t_1)) ≤ a2
            ·rw [if_pos c42] at H
             have c42b0 := decide_eq_true c42
             clear c42
             obtain ⟨t_h, A430, H⟩ := bS H
             try dsimp only at H
             have A43 := Y0.mk A430
             clear A430
             by_cases c44 : t_h = true
             ·subst c44
              rw [if_pos rfl] at H
              by_cases c45 : (x10_3.length : Int) < 256
              ·rw [if_pos c45] at H
               have c45b0 := decide_eq_true c45
               have c45b1 : decide (x10_3.length < 256) = true := decide_eq_true (by omega)
               clear c45
               obtain ⟨c46, H⟩ := iS H
               have LMc46 := Y0.mk c46
               clear c46
               obtain ⟨y659, hy659⟩ : ∃ y_ : List (S28), y_ = (x10_3 ++ [(⟨t_4, t_5, t_2, t_1, t_6, t_7, t_3⟩ : S28)]) := ⟨_, rfl⟩
               replace H : (Yc.l0 k3 a1 a2 y659 x11_3 t_0 (wrap64 (x13_3 + 1)) a0_0 l0_1) = some (r1, r2, r3) := by first | (rw [hy659]; with_reducible exact H) | (have H2_ := (Option.bind_some _ _).symm.trans H; rw [hy659]; with_reducible exact H2_) | (have H2_ := (Option.bind_some _ _).symm.trans H; with_reducible exact H2_) | with_reducible exact H | (rw [hy659]; exact H) | exact H
               have Ny659 := Y0.mk hy659
               clear hy659
               have H' := Y0.mk H
               clear H
               try go_wp2_with (first | ((with_reducible refine Yj (N := 16) rfl ?_); (try (refine Y16 (by rfl) ?_; dsimp only)); refine Yl ?hg (N := 16) ?hd (cs := #[.int .i64 0, .int .i64 0, .int .i64 0, .int .i64 0, .int .i64 0, .int .i64 0, .int .i64 0]) (t := 28) ?hr ?_; (case hd => rfl); (case hg => rfl); (case hr => first | (go_simp; done) | (go_simp; rfl)); intro g_0 hg w67 hbox hb; have n0_ := Y0.mk (Kd.R_below (Kd.R_elderB (by (with_reducible repeat (first | apply Kd.R_alloc | apply Kd.R_drewN | apply Kd.R_drew)); exact (Kd.R_mono (rf13 (g := g_1) (Kd.R_types HO_10.out B_1.out (by decide)) (fun _ hk => hk.2)) (fun _ h_ => h_.1))) g_0 (Nat.le_of_eq hg.symm)) hb); have n1_ := Y0.mk (Kd.R_below (by (with_reducible repeat (first | apply Kd.R_alloc | apply Kd.R_drewN | apply Kd.R_drew)); exact (Kd.R_mono (rf13 (g := g_1) (Kd.R_types HO_11.out B_1.out (by decide)) (fun _ hk => hk.2)) (fun _ h_ => h_.1))) hb); have n2_ := Y0.mk (Kd.R_below (by (with_reducible repeat (first | apply Kd.R_alloc | apply Kd.R_drewN | apply Kd.R_drew)); exact (Kd.R_mono (rf13 (g := g_1) (Kd.R_types HO_12.out B_1.out (by decide)) (fun _ hk => hk.2)) (fun _ h_ => h_.1))) hb); have n3_ := Y0.mk (Y2 (g := g_2) (o := .cells #[.int .i64 a0_0, .slice A0_1 l0_1.length c0_1] 24 (0, 0)) (by (iterate 13 ((with_reducible repeat (first | refine Y6 ?_ _ | refine Y8 ?_ | refine Y5 ?_ _)); refine (Below.heap_setCell _ ⟨_, _, none⟩ _ _ N_0.out).trans ?_)); (with_reducible repeat (first | refine Y6 ?_ _ | refine Y8 ?_ | refine Y5 ?_ _)); exact B_0.out) hb); have n4_ := Y0.mk (Y2 (g := g_1) (o := .cells #[.int .i64 t_c, .int .i64 t_8, .int .i64 t_a, .int .i64 t_b, .int .i64 t_9, .bool false, .int .i64 t_4, .int .i64 t_5, .int .i64 t_2, .int .i64 t_1, .int .i64 t_6, .int .i64 t_7, .int .i64 t_3] 30 (0, 0)) (by (with_reducible repeat (first | refine Y6 ?_ _ | refine Y8 ?_ | refine Y5 ?_ _)); apply Yt; (iterate 12 ((with_reducible repeat (first | refine Y6 ?_ _ | refine Y8 ?_ | refine Y5 ?_ _)); apply Y1q)); (with_reducible repeat (first | refine Y6 ?_ _ | refine Y8 ?_ | refine Y5 ?_ _)); exact B_1.out; simp only [List.setIfInBounds_toArray, List.set_cons_zero, List.set_cons_succ]) hb); have n5_ := Y0.mk (Y4 (hU HB.out) hb); have n6_ := Y0.mk (hbox); have n7_ := gE hg HB; have n8_ := gE hg HB; have n9_ := Y0.mk ((by rw [hg]; exact Nat.ne_of_lt (YR (g := g_2) (o := .cells #[.int .i64 a0_0, .slice A0_1 l0_1.length c0_1] 24 (0, 0)) (by (iterate 13 ((with_reducible repeat (first | refine Y6 ?_ _ | refine Y8 ?_ | refine Y5 ?_ _)); refine (Below.heap_setCell _ ⟨_, _, none⟩ _ _ N_0.out).trans ?_)); (with_reducible repeat (first | refine Y6 ?_ _ | refine Y8 ?_ | refine Y5 ?_ _)); exact B_0.out)) : g_2 ≠ g_0)); have n10_ := Y0.mk ((by rw [hg]; exact Nat.ne_of_gt (YR (g := g_2) (o := .cells #[.int .i64 a0_0, .slice A0_1 l0_1.length c0_1] 24 (0, 0)) (by (iterate 13 ((with_reducible repeat (first | refine Y6 ?_ _ | refine Y8 ?_ | refine Y5 ?_ _)); refine (Below.heap_setCell _ ⟨_, _, none⟩ _ _ N_0.out).trans ?_)); (with_reducible repeat (first | refine Y6 ?_ _ | refine Y8 ?_ | refine Y5 ?_ _)); exact B_0.out)) : g_0 ≠ g_2)); have n11_ := Y0.mk ((by rw [hg]; exact Nat.ne_of_lt (YR (g := g_1) (o := .cells #[.int .i64 t_c, .int .i64 t_8, .int .i64 t_a, .int .i64 t_b, .int .i64 t_9, .bool false, .int .i64 t_4, .int .i64 t_5, .int .i64 t_2, .int .i64 t_1, .int .i64 t_6, .int .i64 t_7, .int .i64 t_3] 30 (0, 0)) (by (with_reducible repeat (first | refine Y6 ?_ _ | refine Y8 ?_ | refine Y5 ?_ _)); apply Yt; (iterate 12 ((with_reducible repeat (first | refine Y6 ?_ _ | refine Y8 ?_ | refine Y5 ?_ _)); apply Y1q)); (with_reducible repeat (first | refine Y6 ?_ _ | refine Y8 ?_ | refine Y5 ?_ _)); exact B_1.out; simp only [List.setIfInBounds_toArray, List.set_cons_zero, List.set_cons_succ])) : g_1 ≠ g_0)); have n12_ := Y0.mk ((by rw [hg]; exact Nat.ne_of_gt (YR (g := g_1) (o := .cells #[.int .i64 t_c, .int .i64 t_8, .int .i64 t_a, .int .i64 t_b, .int .i64 t_9, .bool false, .int .i64 t_4, .int .i64 t_5, .int .i64 t_2, .int .i64 t_1, .int .i64 t_6, .int .i64 t_7, .int .i64 t_3] 30 (0, 0)) (by (with_reducible repeat (first | refine Y6 ?_ _ | refine Y8 ?_ | refine Y5 ?_ _)); apply Yt; (iterate 12 ((with_reducible repeat (first | refine Y6 ?_ _ | refine Y8 ?_ | refine Y5 ?_ _)); apply Y1q)); (with_reducible repeat (first | refine Y6 ?_ _ | refine Y8 ?_ | refine Y5 ?_ _)); exact B_1.out; simp only [List.setIfInBounds_toArray, List.set_cons_zero, List.set_cons_succ])) : g_0 ≠ g_1)); clear HO_10; clear HO_11; clear HO_12; clear B_0; clear B_1; clear HB; have HO_10 := n0_; have HO_11 := n1_; have HO_12 := n2_; have B_0 := n3_; have B_1 := n4_; have HB := n5_; have B_2 := n6_; have W_1 := n7_; have G_1 := n8_; have N_2 := n9_; have N_4 := n10_; have N_3 := n11_; have N_5 := n12_; clear n0_ n1_ n2_ n3_ n4_ n5_ n6_ n7_ n8_ n9_ n10_ n11_ n12_; clear hb hbox hg; have hnb68 := N_4.out; have hnc68 := N_2.out; have hnb69 := N_5.out; have hnc69 := N_3.out; have z_6 := Y1 B_2.out; have f_5 := Y3 B_2.out; obtain ⟨Ao71, co71, eo71⟩ := Kd.R_slice HO_10.out; subst eo71) | (go_at_call 73; (with_reducible refine (Yq.calls k3 _ _ x10_3 t_4 t_5 t_2 t_1 t_6 t_7 t_3 true _ ?side1 ?side2 A43.out).mono ?_); (case side1 => refine (Kd.R_reads' (e := 28) (base := w.heap.size) (ok := fun k_ => (True ∧ k_ ≠ g_0)) (n := x10_3.length) (c := co71) ?_).2.2; exact (by (with_reducible repeat (first | apply Kd.R_alloc | apply Kd.R_drewN | apply Kd.R_drew)); exact (Kd.R_mono (rf7 (g := g_0) (Kd.R_mono HO_10.out (fun k_ hk => (⟨hk, hk.2⟩ : _ ∧ k_ ≠ g_0))) (fun _ hk => hk.2)) (fun _ h_ => h_.1)))); (case side2 => exact (Kd.R_reads' HO_10.out).2.1); rintro e w72 ⟨rfl, hb⟩; replace HO_10 := Y0.mk (Kd.R_below (by (with_reducible repeat (first | apply Kd.R_alloc | apply Kd.R_drewN | apply Kd.R_drew)); exact (Kd.R_mono (rf7 (g := g_0) (Kd.R_mono HO_10.out (fun k_ hk => (⟨hk, hk.2⟩ : _ ∧ k_ ≠ g_0))) (fun _ hk => hk.2)) (fun _ h_ => h_.1))) hb); replace HO_11 := Y0.mk (Kd.R_below (by (with_reducible repeat (first | apply Kd.R_alloc | apply Kd.R_drewN | apply Kd.R_drew)); exact (Kd.R_mono (rf7 (g := g_0) (Kd.R_types HO_11.out B_2.out (by decide)) (fun _ hk => hk.2)) (fun _ h_ => h_.1))) hb); replace HO_12 := Y0.mk (Kd.R_below (by (with_reducible repeat (first | apply Kd.R_alloc | apply Kd.R_drewN | apply Kd.R_drew)); exact (Kd.R_mono (rf7 (g := g_0) (Kd.R_types HO_12.out B_2.out (by decide)) (fun _ hk => hk.2)) (fun _ h_ => h_.1))) hb); replace B_0 := Y0.mk (Y2 (g := g_2) (o := .cells #[.int .i64 a0_0, .slice A0_1 l0_1.length c0_1] 24 (0, 0)) (by (iterate 7 ((with_reducible repeat (first | refine Y6 ?_ _ | refine Y8 ?_ | refine Y5 ?_ _)); refine (Below.heap_setCell _ ⟨_, _, none⟩ _ _ N_2.out).trans ?_)); (with_reducible repeat (first | refine Y6 ?_ _ | refine Y8 ?_ | refine Y5 ?_ _)); exact B_0.out) hb); replace B_1 := Y0.mk (Y2 (g := g_1) (o := .cells #[.int .i64 t_c, .int .i64 t_8, .int .i64 t_a, .int .i64 t_b, .int .i64 t_9, .bool false, .int .i64 t_4, .int .i64 t_5, .int .i64 t_2, .int .i64 t_1, .int .i64 t_6, .int .i64 t_7, .int .i64 t_3] 30 (0, 0)) (by (iterate 7 ((with_reducible repeat (first | refine Y6 ?_ _ | refine Y8 ?_ | refine Y5 ?_ _)); refine (Below.heap_setCell _ ⟨_, _, none⟩ _ _ N_3.out).trans ?_)); (with_reducible repeat (first | refine Y6 ?_ _ | refine Y8 ?_ | refine Y5 ?_ _)); exact B_1.out) hb); replace B_2 := Y0.mk (Y2 (g := g_0) (o := .cells #[.int .i64 t_4, .int .i64 t_5, .int .i64 t_2, .int .i64 t_1, .int .i64 t_6, .int .i64 t_7, .int .i64 t_3] 28 (0, 0)) (by (with_reducible repeat (first | refine Y6 ?_ _ | refine Y8 ?_ | refine Y5 ?_ _)); apply Yt; (iterate 6 ((with_reducible repeat (first | refine Y6 ?_ _ | refine Y8 ?_ | refine Y5 ?_ _)); apply Y1q)); (with_reducible repeat (first | refine Y6 ?_ _ | refine Y8 ?_ | refine Y5 ?_ _)); exact B_2.out; simp only [List.setIfInBounds_toArray, List.set_cons_zero, List.set_cons_succ]) hb); replace HB := Y0.mk (Y4 (hU HB.out) hb); (try clear hb); (try clear hb2); (try clear hk); (try clear hi); have z_9 := Y1 B_2.out; have f_8 := Y3 B_2.out) | ((with_reducible refine Y13 (b := .append) (xs := #[.tmp 76, .tmp 78]) rfl ?_); (try (refine Y16 (by rfl) ?_; dsimp only)); at_builtin; refine Kd.R_append k28 (w0 := w) w.heap.size rfl (.tmp 76) (.tmp 78) 38 28 (.agg #[(.int .i64 0), (.int .i64 0), (.int .i64 0), (.int .i64 0), (.int .i64 0), (.int .i64 0), (.int .i64 0)]) 56 rfl Try.underlying38 Y4E rfl (by decide) (by omega) (.slice Ao71 x10_3.length co71) x10_3 (⟨t_4, t_5, t_2, t_1, t_6, t_7, t_3⟩ : S28) [.int .i64 t_4, .int .i64 t_5, .int .i64 t_2, .int .i64 t_1, .int .i64 t_6, .int .i64 t_7, .int .i64 t_3] (fun k_ => k_ ≠ g_0) (fun _ => False) rfl rfl ?aP (fun _ hk => hk.elim) ?aF ?aO ?aB ?aS ?aL ?_; (case aP => exact Y1Y _ _ _ (⟨t_4, t_5, t_2, t_1, t_6, t_7, t_3⟩ : S28)); (case aB => exact (hU HB.out)); (case aF => exact (fun k_ hk => Kd.freshB (bU B_2.out) k_ hk)); (case aO => exact (by (with_reducible repeat (first | apply Kd.R_alloc | apply Kd.R_drewN | apply Kd.R_drew)); exact Kd.R_mono HO_10.out (fun _ hk => hk.2))); (case aS => exact (Yn (hU HB.out))); (case aL => have := LMc46.out; omega); intro v_3 w74 ho hb hg hat; rw [← Ny659.out] at ho; have n0_ := Y0.mk (Kd.R_over' (Kd.rU HO_11.out) (Kd.R_typed (Kd.rU HO_10.out)) (by decide) hg); have n1_ := Y0.mk (Kd.R_over' (Kd.rU HO_12.out) (Kd.R_typed (Kd.rU HO_10.out)) (by decide) hg); have n2_ := Y0.mk (Y1n (bU B_0.out) hg (Kd.R_ne HO_10.out B_0.out (by decide))); have n3_ := Y0.mk (Y1n (bU B_1.out) hg (Kd.R_ne HO_10.out B_1.out (by decide))); have n4_ := Y0.mk (Y1n (bU B_2.out) hg (Kd.R_away HO_10.out (fun _ hk => hk.2))); have n5_ := Y0.mk (hb); have n6_ := Y0.mk (ho); clear HO_11; clear HO_12; clear B_0; clear B_1; clear B_2; clear HB; clear HO_10; have HO_11 := n0_; have HO_12 := n1_; have B_0 := n2_; have B_1 := n3_; have B_2 := n4_; have HB := n5_; have O_5 := n6_; clear n0_ n1_ n2_ n3_ n4_ n5_ n6_; clear ho hb hg hat))
               go_roundg k3
               case measure => have := HJ5.out; have := HJ11.out; have := HK3.out; omega
               case rel => exact ⟨(y659), (x11_3), (wrap64 (x13_3 + 1)), reS, H', ⟨by have := HJ5.out; have := HJ11.out; have := HK3.out; omega⟩, ⟨by (with_reducible repeat (first | apply Kd.R_alloc | apply Kd.R_drewN | apply Kd.R_drew)); exact Kd.R_mono O_5.out (fun _ hk => trivial)⟩, ⟨by (with_reducible repeat (first | apply Kd.R_alloc | apply Kd.R_drewN | apply Kd.R_drew)); exact HO_11.out⟩, ⟨by (with_reducible repeat (first | apply Kd.R_alloc | apply Kd.R_drewN | apply Kd.R_drew)); exact HO_12.out⟩, ⟨kB B_0⟩, ⟨hU HB.out⟩⟩
              ·rw [if_neg c45] at H
               have c45b0 := decide_eq_false c45
               have c45b1 : decide (x10_3.length < 256) = false := decide_eq_false (by omega)
               clear c45
               obtain ⟨c75, H⟩ := iS H
               have LMc75 := Y0.mk c75
               clear c75
               obtain ⟨y663, hy663⟩ : ∃ y_ : List (S26), y_ = (x11_3 ++ [(⟨(Yx t_0 x13_3).f0, (Yx t_0 x13_3).f1⟩ : S26)]) := ⟨_, rfl⟩
               replace H : (Yc.l0 k3 a1 a2 x10_3 y663 t_0 (wrap64 (x13_3 + 1)) a0_0 l0_1) = some (r1, r2, r3) := by first | (rw [hy663]; with_reducible exact H) | (have H2_ := (Option.bind_some _ _).symm.trans H; rw [hy663]; with_reducible exact H2_) | (have H2_ := (Option.bind_some _ _).symm.trans H; with_reducible exact H2_) | with_reducible exact H | (rw [hy663]; exact H) | exact H
               have Ny663 := Y0.mk hy663
               clear hy663
               have H' := Y0.mk H
               clear H
               try go_wp2_with (first | ((with_reducible refine Yj (N := 16) rfl ?_); (try (refine Y16 (by rfl) ?_; dsimp only)); refine Yl ?hg (N := 16) ?hd (cs := #[.int .i64 0, .int .i64 0, .int .i64 0, .int .i64 0, .int .i64 0, .int .i64 0, .int .i64 0]) (t := 28) ?hr ?_; (case hd => rfl); (case hg => rfl); (case hr => first | (go_simp; done) | (go_simp; rfl)); intro g_0 hg w96 hbox hb; have n0_ := Y0.mk (Kd.R_below (Kd.R_elderB (by (with_reducible repeat (first | apply Kd.R_alloc | apply Kd.R_drewN | apply Kd.R_drew)); exact (Kd.R_mono (rf13 (g := g_1) (Kd.R_types HO_10.out B_1.out (by decide)) (fun _ hk => hk.2)) (fun _ h_ => h_.1))) g_0 (Nat.le_of_eq hg.symm)) hb); have n1_ := Y0.mk (Kd.R_below (by (with_reducible repeat (first | apply Kd.R_alloc | apply Kd.R_drewN | apply Kd.R_drew)); exact (Kd.R_mono (rf13 (g := g_1) (Kd.R_types HO_11.out B_1.out (by decide)) (fun _ hk => hk.2)) (fun _ h_ => h_.1))) hb); have n2_ := Y0.mk (Kd.R_below (by (with_reducible repeat (first | apply Kd.R_alloc | apply Kd.R_drewN | apply Kd.R_drew)); exact (Kd.R_mono (rf13 (g := g_1) (Kd.R_types HO_12.out B_1.out (by decide)) (fun _ hk => hk.2)) (fun _ h_ => h_.1))) hb); have n3_ := Y0.mk (Y2 (g := g_2) (o := .cells #[.int .i64 a0_0, .slice A0_1 l0_1.length c0_1] 24 (0, 0)) (by (iterate 13 ((with_reducible repeat (first | refine Y6 ?_ _ | refine Y8 ?_ | refine Y5 ?_ _)); refine (Below.heap_setCell _ ⟨_, _, none⟩ _ _ N_0.out).trans ?_)); (with_reducible repeat (first | refine Y6 ?_ _ | refine Y8 ?_ | refine Y5 ?_ _)); exact B_0.out) hb); have n4_ := Y0.mk (Y2 (g := g_1) (o := .cells #[.int .i64 t_c, .int .i64 t_8, .int .i64 t_a, .int .i64 t_b, .int .i64 t_9, .bool false, .int .i64 t_4, .int .i64 t_5, .int .i64 t_2, .int .i64 t_1, .int .i64 t_6, .int .i64 t_7, .int .i64 t_3] 30 (0, 0)) (by (with_reducible repeat (first | refine Y6 ?_ _ | refine Y8 ?_ | refine Y5 ?_ _)); apply Yt; (iterate 12 ((with_reducible repeat (first | refine Y6 ?_ _ | refine Y8 ?_ | refine Y5 ?_ _)); apply Y1q)); (with_reducible repeat (first | refine Y6 ?_ _ | refine Y8 ?_ | refine Y5 ?_ _)); exact B_1.out; simp only [List.setIfInBounds_toArray, List.set_cons_zero, List.set_cons_succ]) hb); have n5_ := Y0.mk (Y4 (hU HB.out) hb); have n6_ := Y0.mk (hbox); have n7_ := gE hg HB; have n8_ := gE hg HB; have n9_ := Y0.mk ((by rw [hg]; exact Nat.ne_of_lt (YR (g := g_2) (o := .cells #[.int .i64 a0_0, .slice A0_1 l0_1.length c0_1] 24 (0, 0)) (by (iterate 13 ((with_reducible repeat (first | refine Y6 ?_ _ | refine Y8 ?_ | refine Y5 ?_ _)); refine (Below.heap_setCell _ ⟨_, _, none⟩ _ _ N_0.out).trans ?_)); (with_reducible repeat (first | refine Y6 ?_ _ | refine Y8 ?_ | refine Y5 ?_ _)); exact B_0.out)) : g_2 ≠ g_0)); have n10_ := Y0.mk ((by rw [hg]; exact Nat.ne_of_gt (YR (g := g_2) (o := .cells #[.int .i64 a0_0, .slice A0_1 l0_1.length c0_1] 24 (0, 0)) (by (iterate 13 ((with_reducible repeat (first | refine Y6 ?_ _ | refine Y8 ?_ | refine Y5 ?_ _)); refine (Below.heap_setCell _ ⟨_, _, none⟩ _ _ N_0.out).trans ?_)); (with_reducible repeat (first | refine Y6 ?_ _ | refine Y8 ?_ | refine Y5 ?_ _)); exact B_0.out)) : g_0 ≠ g_2)); have n11_ := Y0.mk ((by rw [hg]; exact Nat.ne_of_lt (YR (g := g_1) (o := .cells #[.int .i64 t_c, .int .i64 t_8, .int .i64 t_a, .int .i64 t_b, .int .i64 t_9, .bool false, .int .i64 t_4, .int .i64 t_5, .int .i64 t_2, .int .i64 t_1, .int .i64 t_6, .int .i64 t_7, .int .i64 t_3] 30 (0, 0)) (by (with_reducible repeat (first | refine Y6 ?_ _ | refine Y8 ?_ | refine Y5 ?_ _)); apply Yt; (iterate 12 ((with_reducible repeat (first | refine Y6 ?_ _ | refine Y8 ?_ | refine Y5 ?_ _)); apply Y1q)); (with_reducible repeat (first | refine Y6 ?_ _ | refine Y8 ?_ | refine Y5 ?_ _)); exact B_1.out; simp only [List.setIfInBounds_toArray, List.set_cons_zero, List.set_cons_succ])) : g_1 ≠ g_0)); have n12_ := Y0.mk ((by rw [hg]; exact Nat.ne_of_gt (YR (g := g_1) (o := .cells #[.int .i64 t_c, .int .i64 t_8, .int .i64 t_a, .int .i64 t_b, .int .i64 t_9, .bool false, .int .i64 t_4, .int .i64 t_5, .int .i64 t_2, .int .i64 t_1, .int .i64 t_6, .int .i64 t_7, .int .i64 t_3] 30 (0, 0)) (by (with_reducible repeat (first | refine Y6 ?_ _ | refine Y8 ?_ | refine Y5 ?_ _)); apply Yt; (iterate 12 ((with_reducible repeat (first | refine Y6 ?_ _ | refine Y8 ?_ | refine Y5 ?_ _)); apply Y1q)); (with_reducible repeat (first | refine Y6 ?_ _ | refine Y8 ?_ | refine Y5 ?_ _)); exact B_1.out; simp only [List.setIfInBounds_toArray, List.set_cons_zero, List.set_cons_succ])) : g_0 ≠ g_1)); clear HO_10; clear HO_11; clear HO_12; clear B_0; clear B_1; clear HB; have HO_10 := n0_; have HO_11 := n1_; have HO_12 := n2_; have B_0 := n3_; have B_1 := n4_; have HB := n5_; have B_2 := n6_; have W_1 := n7_; have G_1 := n8_; have N_2 := n9_; have N_4 := n10_; have N_3 := n11_; have N_5 := n12_; clear n0_ n1_ n2_ n3_ n4_ n5_ n6_ n7_ n8_ n9_ n10_ n11_ n12_; clear hb hbox hg; have hnb97 := N_4.out; have hnc97 := N_2.out; have hnb98 := N_5.out; have hnc98 := N_3.out; have z_8 := Y1 B_2.out; have f_3 := Y3 B_2.out; obtain ⟨Ao100, co100, eo100⟩ := Kd.R_slice HO_10.out; subst eo100) | (go_at_call 73; (with_reducible refine (Yq.calls k3 _ _ x10_3 t_4 t_5 t_2 t_1 t_6 t_7 t_3 true _ ?side1 ?side2 A43.out).mono ?_); (case side1 => refine (Kd.R_reads' (e := 28) (base := w.heap.size) (ok := fun k_ => (True ∧ k_ ≠ g_0)) (n := x10_3.length) (c := co100) ?_).2.2; exact (by (with_reducible repeat (first | apply Kd.R_alloc | apply Kd.R_drewN | apply Kd.R_drew)); exact (Kd.R_mono (rf7 (g := g_0) (Kd.R_mono HO_10.out (fun k_ hk => (⟨hk, hk.2⟩ : _ ∧ k_ ≠ g_0))) (fun _ hk => hk.2)) (fun _ h_ => h_.1)))); (case side2 => exact (Kd.R_reads' HO_10.out).2.1); rintro e w101 ⟨rfl, hb⟩; replace HO_10 := Y0.mk (Kd.R_below (by (with_reducible repeat (first | apply Kd.R_alloc | apply Kd.R_drewN | apply Kd.R_drew)); exact (Kd.R_mono (rf7 (g := g_0) (Kd.R_mono HO_10.out (fun k_ hk => (⟨hk, hk.2⟩ : _ ∧ k_ ≠ g_0))) (fun _ hk => hk.2)) (fun _ h_ => h_.1))) hb); replace HO_11 := Y0.mk (Kd.R_below (by (with_reducible repeat (first | apply Kd.R_alloc | apply Kd.R_drewN | apply Kd.R_drew)); exact (Kd.R_mono (rf7 (g := g_0) (Kd.R_types HO_11.out B_2.out (by decide)) (fun _ hk => hk.2)) (fun _ h_ => h_.1))) hb); replace HO_12 := Y0.mk (Kd.R_below (by (with_reducible repeat (first | apply Kd.R_alloc | apply Kd.R_drewN | apply Kd.R_drew)); exact (Kd.R_mono (rf7 (g := g_0) (Kd.R_types HO_12.out B_2.out (by decide)) (fun _ hk => hk.2)) (fun _ h_ => h_.1))) hb); replace B_0 := Y0.mk (Y2 (g := g_2) (o := .cells #[.int .i64 a0_0, .slice A0_1 l0_1.length c0_1] 24 (0, 0)) (by (iterate 7 ((with_reducible repeat (first | refine Y6 ?_ _ | refine Y8 ?_ | refine Y5 ?_ _)); refine (Below.heap_setCell _ ⟨_, _, none⟩ _ _ N_2.out).trans ?_)); (with_reducible repeat (first | refine Y6 ?_ _ | refine Y8 ?_ | refine Y5 ?_ _)); exact B_0.out) hb); replace B_1 := Y0.mk (Y2 (g := g_1) (o := .cells #[.int .i64 t_c, .int .i64 t_8, .int .i64 t_a, .int .i64 t_b, .int .i64 t_9, .bool false, .int .i64 t_4, .int .i64 t_5, .int .i64 t_2, .int .i64 t_1, .int .i64 t_6, .int .i64 t_7, .int .i64 t_3] 30 (0, 0)) (by (iterate 7 ((with_reducible repeat (first | refine Y6 ?_ _ | refine Y8 ?_ | refine Y5 ?_ _)); refine (Below.heap_setCell _ ⟨_, _, none⟩ _ _ N_3.out).trans ?_)); (with_reducible repeat (first | refine Y6 ?_ _ | refine Y8 ?_ | refine Y5 ?_ _)); exact B_1.out) hb); replace B_2 := Y0.mk (Y2 (g := g_0) (o := .cells #[.int .i64 t_4, .int .i64 t_5, .int .i64 t_2, .int .i64 t_1, .int .i64 t_6, .int .i64 t_7, .int .i64 t_3] 28 (0, 0)) (by (with_reducible repeat (first | refine Y6 ?_ _ | refine Y8 ?_ | refine Y5 ?_ _)); apply Yt; (iterate 6 ((with_reducible repeat (first | refine Y6 ?_ _ | refine Y8 ?_ | refine Y5 ?_ _)); apply Y1q)); (with_reducible repeat (first | refine Y6 ?_ _ | refine Y8 ?_ | refine Y5 ?_ _)); exact B_2.out; simp only [List.setIfInBounds_toArray, List.set_cons_zero, List.set_cons_succ]) hb); replace HB := Y0.mk (Y4 (hU HB.out) hb); (try clear hb); (try clear hb2); (try clear hk); (try clear hi); have p662 : 0 ≤ (x13_3 : Int) := of_decide_eq_true (by first | (with_reducible assumption) | assumption); have q662 : x13_3 < (t_0.length : Int) := of_decide_eq_true (by first | (with_reducible assumption) | assumption); obtain ⟨d_3, e662, m_4, m_5⟩ := Y1Z (Kd.R_reads' HO_12.out).2.2 x13_3 p662 q662; obtain rfl : d_0 = d_3 := (by injection e662); replace p662 := eq_true p662; replace q662 := eq_true q662) | ((with_reducible refine Y13 (b := .append) (xs := #[.tmp 80, .tmp 85]) rfl ?_); (try (refine Y16 (by rfl) ?_; dsimp only)); at_builtin; refine Kd.R_append k26 (w0 := w) w.heap.size rfl (.tmp 80) (.tmp 85) 39 26 (.agg #[(.int .i64 0), (.int .i64 0)]) 16 rfl Try.underlying39 Y1M rfl (by decide) (by omega) u11 x11_3 (⟨(Yx t_0 x13_3).f0, (Yx t_0 x13_3).f1⟩ : S26) [.int .i64 ((Yx t_0 x13_3).f0), .int .i64 ((Yx t_0 x13_3).f1)] (fun k_ => some k_ ≠ (.slice (some d_0) t_0.length co22 : Value).ownBlock) (fun _ => False) rfl rfl ?aP (fun _ hk => hk.elim) ?aF ?aO ?aB ?aS ?aL ?_; (case aP => exact Y1Q _ _ _ (⟨(Yx t_0 x13_3).f0, (Yx t_0 x13_3).f1⟩ : S26)); (case aB => exact (hU HB.out)); (case aF => exact (fun k_ hk => Kd.fresh' (Kd.R_lt (Kd.rU HO_12.out)) k_ hk)); (case aO => exact (Kd.rU HO_11.out)); (case aS => exact (Yn (hU HB.out))); (case aL => have := LMc75.out; omega); intro v_1 w102 ho hb hg hat; rw [← Ny663.out] at ho; have n0_ := Y0.mk (Kd.R_over' (Kd.rU HO_10.out) (Kd.R_typed (Kd.rU HO_11.out)) (by decide) hg); have n1_ := Y0.mk (Kd.R_after (ok := (fun _ => True)) (by (with_reducible repeat (first | apply Kd.R_alloc | apply Kd.R_drewN | apply Kd.R_drew)); exact Kd.R_mono HO_12.out (fun _ hk => ⟨trivial, hk⟩)) hg hat); have n2_ := Y0.mk (Y1n (bU B_0.out) hg (Kd.R_ne HO_11.out B_0.out (by decide))); have n3_ := Y0.mk (Y1n (bU B_1.out) hg (Kd.R_ne HO_11.out B_1.out (by decide))); have n4_ := Y0.mk (Y1n (bU B_2.out) hg (Kd.R_ne HO_11.out B_2.out (by decide))); have n5_ := Y0.mk (hb); have n6_ := Y0.mk (ho); clear HO_10; clear HO_12; clear B_0; clear B_1; clear B_2; clear HB; clear HO_11; have HO_10 := n0_; have HO_12 := n1_; have B_0 := n2_; have B_1 := n3_; have B_2 := n4_; have HB := n5_; have O_3 := n6_; clear n0_ n1_ n2_ n3_ n4_ n5_ n6_; clear ho hb hg hat))
               go_roundg k3
               case measure => have := HJ5.out; have := HJ11.out; have := HK3.out; omega
               case rel => exact ⟨(x10_3), (y663), (wrap64 (x13_3 + 1)), reS, H', ⟨by have := HJ5.out; have := HJ11.out; have := HK3.out; omega⟩, ⟨by (with_reducible repeat (first | apply Kd.R_alloc | apply Kd.R_drewN | apply Kd.R_drew)); exact Kd.R_mono HO_10.out (fun _ hk => trivial)⟩, ⟨by (with_reducible repeat (first | apply Kd.R_alloc | apply Kd.R_drewN | apply Kd.R_drew)); exact O_3.out⟩, ⟨by (with_reducible repeat (first | apply Kd.R_alloc | apply Kd.R_drewN | apply Kd.R_drew)); exact Kd.R_mono HO_12.out (fun _ hk => hk.2)⟩, ⟨kB B_0⟩, ⟨hU HB.out⟩⟩
             ·replace c44 := Bool.eq_false_iff.mpr c44
              subst c44
              rw [if_neg (show ¬ (false = true) by decide)] at H
              obtain ⟨c103, H⟩ := iS H
              have LMc103 := Y0.mk c103
              clear c103
              obtain ⟨y667, hy667⟩ : ∃ y_ : List (S26), y_ = (x11_3 ++ [(⟨(Yx t_0 x13_3).f0, (Yx t_0 x13_3).f1⟩ : S26)]) := ⟨_, rfl⟩
              replace H : (Yc.l0 k3 a1 a2 x10_3 y667 t_0 (wrap64 (x13_3 + 1)) a0_0 l0_1) = some (r1, r2, r3) := by first | (rw [hy667]; with_reducible exact H) | (have H2_ := (Option.bind_some _ _).symm.trans H; rw [hy667]; with_reducible exact H2_) | (have H2_ := (Option.bind_some _ _).symm.trans H; with_reducible exact H2_) | with_reducible exact H | (rw [hy667]; exact H) | exact H
              have Ny667 := Y0.mk hy667
              clear hy667
              have H' := Y0.mk H
              clear H
              try go_wp2_with (first | ((with_reducible refine Yj (N := 16) rfl ?_); (try (refine Y16 (by rfl) ?_; dsimp only)); refine Yl ?hg (N := 16) ?hd (cs := #[.int .i64 0, .int .i64 0, .int .i64 0, .int .i64 0, .int .i64 0, .int .i64 0, .int .i64 0]) (t := 28) ?hr ?_; (case hd => rfl); (case hg => rfl); (case hr => first | (go_simp; done) | (go_simp; rfl)); intro g_0 hg w124 hbox hb; have n0_ := Y0.mk (Kd.R_below (Kd.R_elderB (by (with_reducible repeat (first | apply Kd.R_alloc | apply Kd.R_drewN | apply Kd.R_drew)); exact (Kd.R_mono (rf13 (g := g_1) (Kd.R_types HO_10.out B_1.out (by decide)) (fun _ hk => hk.2)) (fun _ h_ => h_.1))) g_0 (Nat.le_of_eq hg.symm)) hb); have n1_ := Y0.mk (Kd.R_below (by (with_reducible repeat (first | apply Kd.R_alloc | apply Kd.R_drewN | apply Kd.R_drew)); exact (Kd.R_mono (rf13 (g := g_1) (Kd.R_types HO_11.out B_1.out (by decide)) (fun _ hk => hk.2)) (fun _ h_ => h_.1))) hb); have n2_ := Y0.mk (Kd.R_below (by (with_reducible repeat (first | apply Kd.R_alloc | apply Kd.R_drewN | apply Kd.R_drew)); exact (Kd.R_mono (rf13 (g := g_1) (Kd.R_types HO_12.out B_1.out (by decide)) (fun _ hk => hk.2)) (fun _ h_ => h_.1))) hb); have n3_ := Y0.mk (Y2 (g := g_2) (o := .cells #[.int .i64 a0_0, .slice A0_1 l0_1.length c0_1] 24 (0, 0)) (by (iterate 13 ((with_reducible repeat (first | refine Y6 ?_ _ | refine Y8 ?_ | refine Y5 ?_ _)); refine (Below.heap_setCell _ ⟨_, _, none⟩ _ _ N_0.out).trans ?_)); (with_reducible repeat (first | refine Y6 ?_ _ | refine Y8 ?_ | refine Y5 ?_ _)); exact B_0.out) hb); have n4_ := Y0.mk (Y2 (g := g_1) (o := .cells #[.int .i64 t_c, .int .i64 t_8, .int .i64 t_a, .int .i64 t_b, .int .i64 t_9, .bool false, .int .i64 t_4, .int .i64 t_5, .int .i64 t_2, .int .i64 t_1, .int .i64 t_6, .int .i64 t_7, .int .i64 t_3] 30 (0, 0)) (by (with_reducible repeat (first | refine Y6 ?_ _ | refine Y8 ?_ | refine Y5 ?_ _)); apply Yt; (iterate 12 ((with_reducible repeat (first | refine Y6 ?_ _ | refine Y8 ?_ | refine Y5 ?_ _)); apply Y1q)); (with_reducible repeat (first | refine Y6 ?_ _ | refine Y8 ?_ | refine Y5 ?_ _)); exact B_1.out; simp only [List.setIfInBounds_toArray, List.set_cons_zero, List.set_cons_succ]) hb); have n5_ := Y0.mk (Y4 (hU HB.out) hb); have n6_ := Y0.mk (hbox); have n7_ := gE hg HB; have n8_ := gE hg HB; have n9_ := Y0.mk ((by rw [hg]; exact Nat.ne_of_lt (YR (g := g_2) (o := .cells #[.int .i64 a0_0, .slice A0_1 l0_1.length c0_1] 24 (0, 0)) (by (iterate 13 ((with_reducible repeat (first | refine Y6 ?_ _ | refine Y8 ?_ | refine Y5 ?_ _)); refine (Below.heap_setCell _ ⟨_, _, none⟩ _ _ N_0.out).trans ?_)); (with_reducible repeat (first | refine Y6 ?_ _ | refine Y8 ?_ | refine Y5 ?_ _)); exact B_0.out)) : g_2 ≠ g_0)); have n10_ := Y0.mk ((by rw [hg]; exact Nat.ne_of_gt (YR (g := g_2) (o := .cells #[.int .i64 a0_0, .slice A0_1 l0_1.length c0_1] 24 (0, 0)) (by (iterate 13 ((with_reducible repeat (first | refine Y6 ?_ _ | refine Y8 ?_ | refine Y5 ?_ _)); refine (Below.heap_setCell _ ⟨_, _, none⟩ _ _ N_0.out).trans ?_)); (with_reducible repeat (first | refine Y6 ?_ _ | refine Y8 ?_ | refine Y5 ?_ _)); exact B_0.out)) : g_0 ≠ g_2)); have n11_ := Y0.mk ((by rw [hg]; exact Nat.ne_of_lt (YR (g := g_1) (o := .cells #[.int .i64 t_c, .int .i64 t_8, .int .i64 t_a, .int .i64 t_b, .int .i64 t_9, .bool false, .int .i64 t_4, .int .i64 t_5, .int .i64 t_2, .int .i64 t_1, .int .i64 t_6, .int .i64 t_7, .int .i64 t_3] 30 (0, 0)) (by (with_reducible repeat (first | refine Y6 ?_ _ | refine Y8 ?_ | refine Y5 ?_ _)); apply Yt; (iterate 12 ((with_reducible repeat (first | refine Y6 ?_ _ | refine Y8 ?_ | refine Y5 ?_ _)); apply Y1q)); (with_reducible repeat (first | refine Y6 ?_ _ | refine Y8 ?_ | refine Y5 ?_ _)); exact B_1.out; simp only [List.setIfInBounds_toArray, List.set_cons_zero, List.set_cons_succ])) : g_1 ≠ g_0)); have n12_ := Y0.mk ((by rw [hg]; exact Nat.ne_of_gt (YR (g := g_1) (o := .cells #[.int .i64 t_c, .int .i64 t_8, .int .i64 t_a, .int .i64 t_b, .int .i64 t_9, .bool false, .int .i64 t_4, .int .i64 t_5, .int .i64 t_2, .int .i64 t_1, .int .i64 t_6, .int .i64 t_7, .int .i64 t_3] 30 (0, 0)) (by (with_reducible repeat (first | refine Y6 ?_ _ | refine Y8 ?_ | refine Y5 ?_ _)); apply Yt; (iterate 12 ((with_reducible repeat (first | refine Y6 ?_ _ | refine Y8 ?_ | refine Y5 ?_ _)); apply Y1q)); (with_reducible repeat (first | refine Y6 ?_ _ | refine Y8 ?_ | refine Y5 ?_ _)); exact B_1.out; simp only [List.setIfInBounds_toArray, List.set_cons_zero, List.set_cons_succ])) : g_0 ≠ g_1)); clear HO_10; clear HO_11; clear HO_12; clear B_0; clear B_1; clear HB; have HO_10 := n0_; have HO_11 := n1_; have HO_12 := n2_; have B_0 := n3_; have B_1 := n4_; have HB := n5_; have B_2 := n6_; have W_1 := n7_; have G_1 := n8_; have N_2 := n9_; have N_4 := n10_; have N_3 := n11_; have N_5 := n12_; clear n0_ n1_ n2_ n3_ n4_ n5_ n6_ n7_ n8_ n9_ n10_ n11_ n12_; clear hb hbox hg; have hnb125 := N_4.out; have hnc125 := N_2.out; have hnb126 := N_5.out; have hnc126 := N_3.out; have z_7 := Y1 B_2.out; have f_7 := Y3 B_2.out; obtain ⟨Ao128, co128, eo128⟩ := Kd.R_slice HO_10.out; subst eo128) | (go_at_call 73; (with_reducible refine (Yq.calls k3 _ _ x10_3 t_4 t_5 t_2 t_1 t_6 t_7 t_3 false _ ?side1 ?side2 A43.out).mono ?_); (case side1 => refine (Kd.R_reads' (e := 28) (base := w.heap.size) (ok := fun k_ => (True ∧ k_ ≠ g_0)) (n := x10_3.length) (c := co128) ?_).2.2; exact (by (with_reducible repeat (first | apply Kd.R_alloc | apply Kd.R_drewN | apply Kd.R_drew)); exact (Kd.R_mono (rf7 (g := g_0) (Kd.R_mono HO_10.out (fun k_ hk => (⟨hk, hk.2⟩ : _ ∧ k_ ≠ g_0))) (fun _ hk => hk.2)) (fun _ h_ => h_.1)))); (case side2 => exact (Kd.R_reads' HO_10.out).2.1); rintro e w129 ⟨rfl, hb⟩; replace HO_10 := Y0.mk (Kd.R_below (by (with_reducible repeat (first | apply Kd.R_alloc | apply Kd.R_drewN | apply Kd.R_drew)); exact (Kd.R_mono (rf7 (g := g_0) (Kd.R_mono HO_10.out (fun k_ hk => (⟨hk, hk.2⟩ : _ ∧ k_ ≠ g_0))) (fun _ hk => hk.2)) (fun _ h_ => h_.1))) hb); replace HO_11 := Y0.mk (Kd.R_below (by (with_reducible repeat (first | apply Kd.R_alloc | apply Kd.R_drewN | apply Kd.R_drew)); exact (Kd.R_mono (rf7 (g := g_0) (Kd.R_types HO_11.out B_2.out (by decide)) (fun _ hk => hk.2)) (fun _ h_ => h_.1))) hb); replace HO_12 := Y0.mk (Kd.R_below (by (with_reducible repeat (first | apply Kd.R_alloc | apply Kd.R_drewN | apply Kd.R_drew)); exact (Kd.R_mono (rf7 (g := g_0) (Kd.R_types HO_12.out B_2.out (by decide)) (fun _ hk => hk.2)) (fun _ h_ => h_.1))) hb); replace B_0 := Y0.mk (Y2 (g := g_2) (o := .cells #[.int .i64 a0_0, .slice A0_1 l0_1.length c0_1] 24 (0, 0)) (by (iterate 7 ((with_reducible repeat (first | refine Y6 ?_ _ | refine Y8 ?_ | refine Y5 ?_ _)); refine (Below.heap_setCell _ ⟨_, _, none⟩ _ _ N_2.out).trans ?_)); (with_reducible repeat (first | refine Y6 ?_ _ | refine Y8 ?_ | refine Y5 ?_ _)); exact B_0.out) hb); replace B_1 := Y0.mk (Y2 (g := g_1) (o := .cells #[.int .i64 t_c, .int .i64 t_8, .int .i64 t_a, .int .i64 t_b, .int .i64 t_9, .bool false, .int .i64 t_4, .int .i64 t_5, .int .i64 t_2, .int .i64 t_1, .int .i64 t_6, .int .i64 t_7, .int .i64 t_3] 30 (0, 0)) (by (iterate 7 ((with_reducible repeat (first | refine Y6 ?_ _ | refine Y8 ?_ | refine Y5 ?_ _)); refine (Below.heap_setCell _ ⟨_, _, none⟩ _ _ N_3.out).trans ?_)); (with_reducible repeat (first | refine Y6 ?_ _ | refine Y8 ?_ | refine Y5 ?_ _)); exact B_1.out) hb); replace B_2 := Y0.mk (Y2 (g := g_0) (o := .cells #[.int .i64 t_4, .int .i64 t_5, .int .i64 t_2, .int .i64 t_1, .int .i64 t_6, .int .i64 t_7, .int .i64 t_3] 28 (0, 0)) (by (with_reducible repeat (first | refine Y6 ?_ _ | refine Y8 ?_ | refine Y5 ?_ _)); apply Yt; (iterate 6 ((with_reducible repeat (first | refine Y6 ?_ _ | refine Y8 ?_ | refine Y5 ?_ _)); apply Y1q)); (with_reducible repeat (first | refine Y6 ?_ _ | refine Y8 ?_ | refine Y5 ?_ _)); exact B_2.out; simp only [List.setIfInBounds_toArray, List.set_cons_zero, List.set_cons_succ]) hb); replace HB := Y0.mk (Y4 (hU HB.out) hb); (try clear hb); (try clear hb2); (try clear hk); (try clear hi); have p666 : 0 ≤ (x13_3 : Int) := of_decide_eq_true (by first | (with_reducible assumption) | assumption); have q666 : x13_3 < (t_0.length : Int) := of_decide_eq_true (by first | (with_reducible assumption) | assumption); obtain ⟨d_1, e666, m_6, m_7⟩ := Y1Z (Kd.R_reads' HO_12.out).2.2 x13_3 p666 q666; obtain rfl : d_0 = d_1 := (by injection e666); replace p666 := eq_true p666; replace q666 := eq_true q666) | ((with_reducible refine Y13 (b := .append) (xs := #[.tmp 80, .tmp 85]) rfl ?_); (try (refine Y16 (by rfl) ?_; dsimp only)); at_builtin; refine Kd.R_append k26 (w0 := w) w.heap.size rfl (.tmp 80) (.tmp 85) 39 26 (.agg #[(.int .i64 0), (.int .i64 0)]) 16 rfl Try.underlying39 Y1M rfl (by decide) (by omega) u11 x11_3 (⟨(Yx t_0 x13_3).f0, (Yx t_0 x13_3).f1⟩ : S26) [.int .i64 ((Yx t_0 x13_3).f0), .int .i64 ((Yx t_0 x13_3).f1)] (fun k_ => some k_ ≠ (.slice (some d_0) t_0.length co22 : Value).ownBlock) (fun _ => False) rfl rfl ?aP (fun _ hk => hk.elim) ?aF ?aO ?aB ?aS ?aL ?_; (case aP => exact Y1Q _ _ _ (⟨(Yx t_0 x13_3).f0, (Yx t_0 x13_3).f1⟩ : S26)); (case aB => exact (hU HB.out)); (case aF => exact (fun k_ hk => Kd.fresh' (Kd.R_lt (Kd.rU HO_12.out)) k_ hk)); (case aO => exact (Kd.rU HO_11.out)); (case aS => exact (Yn (hU HB.out))); (case aL => have := LMc103.out; omega); intro v_4 w130 ho hb hg hat; rw [← Ny667.out] at ho; have n0_ := Y0.mk (Kd.R_over' (Kd.rU HO_10.out) (Kd.R_typed (Kd.rU HO_11.out)) (by decide) hg); have n1_ := Y0.mk (Kd.R_after (ok := (fun _ => True)) (by (with_reducible repeat (first | apply Kd.R_alloc | apply Kd.R_drewN | apply Kd.R_drew)); exact Kd.R_mono HO_12.out (fun _ hk => ⟨trivial, hk⟩)) hg hat); have n2_ := Y0.mk (Y1n (bU B_0.out) hg (Kd.R_ne HO_11.out B_0.out (by decide))); have n3_ := Y0.mk (Y1n (bU B_1.out) hg (Kd.R_ne HO_11.out B_1.out (by decide))); have n4_ := Y0.mk (Y1n (bU B_2.out) hg (Kd.R_ne HO_11.out B_2.out (by decide))); have n5_ := Y0.mk (hb); have n6_ := Y0.mk (ho); clear HO_10; clear HO_12; clear B_0; clear B_1; clear B_2; clear HB; clear HO_11; have HO_10 := n0_; have HO_12 := n1_; have B_0 := n2_; have B_1 := n3_; have B_2 := n4_; have HB := n5_; have O_1 := n6_; clear n0_ n1_ n2_ n3_ n4_ n5_ n6_; clear ho hb hg hat))
              go_roundg k3
              case measure => have := HJ5.out; have := HJ11.out; have := HK3.out; omega
              case rel => exact ⟨(x10_3), (y667), (wrap64 (x13_3 + 1)), reS, H', ⟨by have := HJ5.out; have := HJ11.out; have := HK3.out; omega⟩, ⟨by (with_reducible repeat (first | apply Kd.R_alloc | apply Kd.R_drewN | apply Kd.R_drew)); exact Kd.R_mono HO_10.out (fun _ hk => trivial)⟩, ⟨by (with_reducible repeat (first | apply Kd.R_alloc | apply Kd.R_drewN | apply Kd.R_drew)); exact O_1.out⟩, ⟨by (with_reducible repeat (first | apply Kd.R_alloc | apply Kd.R_drewN | apply Kd.R_drew)); exact Kd.R_mono HO_12.out (fun _ hk => hk.2)⟩, ⟨kB B_0⟩, ⟨hU HB.out⟩⟩
            ·rw [if_neg c42] at H
             have c42b0 := decide_eq_false c42
             clear c42
             obtain ⟨c131, H⟩ := iS H
             have LMc131 := Y0.mk c131
             clear c131
             obtain ⟨y671, hy671⟩ : ∃ y_ : List (S26), y_ = (x11_3 ++ [(⟨(Yx t_0 x13_3).f0, (Yx t_0 x13_3).f1⟩ : S26)]) := ⟨_, rfl⟩
             replace H : (Yc.l0 k3 a1 a2 x10_3 y671 t_0 (wrap64 (x13_3 + 1)) a0_0 l0_1) = some (r1, r2, r3) := by first | (rw [hy671]; with_reducible exact H) | (have H2_ := (Option.bind_some _ _).symm.trans H; rw [hy671]; with_reducible exact H2_) | (have H2_ := (Option.bind_some _ _).symm.trans H; with_reducible exact H2_) | with_reducible exact H | (rw [hy671]; exact H) | exact H
             have Ny671 := Y0.mk hy671
             clear hy671
             have H' := Y0.mk H
             clear H
             try go_wp2_with (first | ((with_reducible refine Yj (N := 16) rfl ?_); (try (refine Y16 (by rfl) ?_; dsimp only)); refine Yl ?hg (N := 16) ?hd (cs := #[.int .i64 0, .int .i64 0, .int .i64 0, .int .i64 0, .int .i64 0, .int .i64 0, .int .i64 0]) (t := 28) ?hr ?_; (case hd => rfl); (case hg => rfl); (case hr => first | (go_simp; done) | (go_simp; rfl)); intro g_0 hg w152 hbox hb; have n0_ := Y0.mk (Kd.R_below (Kd.R_elderB (by (with_reducible repeat (first | apply Kd.R_alloc | apply Kd.R_drewN | apply Kd.R_drew)); exact (Kd.R_mono (rf13 (g := g_1) (Kd.R_types HO_10.out B_1.out (by decide)) (fun _ hk => hk.2)) (fun _ h_ => h_.1))) g_0 (Nat.le_of_eq hg.symm)) hb); have n1_ := Y0.mk (Kd.R_below (by (with_reducible repeat (first | apply Kd.R_alloc | apply Kd.R_drewN | apply Kd.R_drew)); exact (Kd.R_mono (rf13 (g := g_1) (Kd.R_types HO_11.out B_1.out (by decide)) (fun _ hk => hk.2)) (fun _ h_ => h_.1))) hb); have n2_ := Y0.mk (Kd.R_below (by (with_reducible repeat (first | apply Kd.R_alloc | apply Kd.R_drewN | apply Kd.R_drew)); exact (Kd.R_mono (rf13 (g := g_1) (Kd.R_types HO_12.out B_1.out (by decide)) (fun _ hk => hk.2)) (fun _ h_ => h_.1))) hb); have n3_ := Y0.mk (Y2 (g := g_2) (o := .cells #[.int .i64 a0_0, .slice A0_1 l0_1.length c0_1] 24 (0, 0)) (by (iterate 13 ((with_reducible repeat (first | refine Y6 ?_ _ | refine Y8 ?_ | refine Y5 ?_ _)); refine (Below.heap_setCell _ ⟨_, _, none⟩ _ _ N_0.out).trans ?_)); (with_reducible repeat (first | refine Y6 ?_ _ | refine Y8 ?_ | refine Y5 ?_ _)); exact B_0.out) hb); have n4_ := Y0.mk (Y2 (g := g_1) (o := .cells #[.int .i64 t_c, .int .i64 t_8, .int .i64 t_a, .int .i64 t_b, .int .i64 t_9, .bool false, .int .i64 t_4, .int .i64 t_5, .int .i64 t_2, .int .i64 t_1, .int .i64 t_6, .int .i64 t_7, .int .i64 t_3] 30 (0, 0)) (by (with_reducible repeat (first | refine Y6 ?_ _ | refine Y8 ?_ | refine Y5 ?_ _)); apply Yt; (iterate 12 ((with_reducible repeat (first | refine Y6 ?_ _ | refine Y8 ?_ | refine Y5 ?_ _)); apply Y1q)); (with_reducible repeat (first | refine Y6 ?_ _ | refine Y8 ?_ | refine Y5 ?_ _)); exact B_1.out; simp only [List.setIfInBounds_toArray, List.set_cons_zero, List.set_cons_succ]) hb); have n5_ := Y0.mk (Y4 (hU HB.out) hb); have n6_ := Y0.mk (hbox); have n7_ := gE hg HB; have n8_ := gE hg HB; have n9_ := Y0.mk ((by rw [hg]; exact Nat.ne_of_lt (YR (g := g_2) (o := .cells #[.int .i64 a0_0, .slice A0_1 l0_1.length c0_1] 24 (0, 0)) (by (iterate 13 ((with_reducible repeat (first | refine Y6 ?_ _ | refine Y8 ?_ | refine Y5 ?_ _)); refine (Below.heap_setCell _ ⟨_, _, none⟩ _ _ N_0.out).trans ?_)); (with_reducible repeat (first | refine Y6 ?_ _ | refine Y8 ?_ | refine Y5 ?_ _)); exact B_0.out)) : g_2 ≠ g_0)); have n10_ := Y0.mk ((by rw [hg]; exact Nat.ne_of_gt (YR (g := g_2) (o := .cells #[.int .i64 a0_0, .slice A0_1 l0_1.length c0_1] 24 (0, 0)) (by (iterate 13 ((with_reducible repeat (first | refine Y6 ?_ _ | refine Y8 ?_ | refine Y5 ?_ _)); refine (Below.heap_setCell _ ⟨_, _, none⟩ _ _ N_0.out).trans ?_)); (with_reducible repeat (first | refine Y6 ?_ _ | refine Y8 ?_ | refine Y5 ?_ _)); exact B_0.out)) : g_0 ≠ g_2)); have n11_ := Y0.mk ((by rw [hg]; exact Nat.ne_of_lt (YR (g := g_1) (o := .cells #[.int .i64 t_c, .int .i64 t_8, .int .i64 t_a, .int .i64 t_b, .int .i64 t_9, .bool false, .int .i64 t_4, .int .i64 t_5, .int .i64 t_2, .int .i64 t_1, .int .i64 t_6, .int .i64 t_7, .int .i64 t_3] 30 (0, 0)) (by (with_reducible repeat (first | refine Y6 ?_ _ | refine Y8 ?_ | refine Y5 ?_ _)); apply Yt; (iterate 12 ((with_reducible repeat (first | refine Y6 ?_ _ | refine Y8 ?_ | refine Y5 ?_ _)); apply Y1q)); (with_reducible repeat (first | refine Y6 ?_ _ | refine Y8 ?_ | refine Y5 ?_ _)); exact B_1.out; simp only [List.setIfInBounds_toArray, List.set_cons_zero, List.set_cons_succ])) : g_1 ≠ g_0)); have n12_ := Y0.mk ((by rw [hg]; exact Nat.ne_of_gt (YR (g := g_1) (o := .cells #[.int .i64 t_c, .int .i64 t_8, .int .i64 t_a, .int .i64 t_b, .int .i64 t_9, .bool false, .int .i64 t_4, .int .i64 t_5, .int .i64 t_2, .int .i64 t_1, .int .i64 t_6, .int .i64 t_7, .int .i64 t_3] 30 (0, 0)) (by (with_reducible repeat (first | refine Y6 ?_ _ | refine Y8 ?_ | refine Y5 ?_ _)); apply Yt; (iterate 12 ((with_reducible repeat (first | refine Y6 ?_ _ | refine Y8 ?_ | refine Y5 ?_ _)); apply Y1q)); (with_reducible repeat (first | refine Y6 ?_ _ | refine Y8 ?_ | refine Y5 ?_ _)); exact B_1.out; simp only [List.setIfInBounds_toArray, List.set_cons_zero, List.set_cons_succ])) : g_0 ≠ g_1)); clear HO_10; clear HO_11; clear HO_12; clear B_0; clear B_1; clear HB; have HO_10 := n0_; have HO_11 := n1_; have HO_12 := n2_; have B_0 := n3_; have B_1 := n4_; have HB := n5_; have B_2 := n6_; have W_1 := n7_; have G_1 := n8_; have N_2 := n9_; have N_4 := n10_; have N_3 := n11_; have N_5 := n12_; clear n0_ n1_ n2_ n3_ n4_ n5_ n6_ n7_ n8_ n9_ n10_ n11_ n12_; clear hb hbox hg; have hnb153 := N_4.out; have hnc153 := N_2.out; have hnb154 := N_5.out; have hnc154 := N_3.out; have z_4 := Y1 B_2.out; have f_4 := Y3 B_2.out; have p670 : 0 ≤ (x13_3 : Int) := of_decide_eq_true (by first | (with_reducible assumption) | assumption); have q670 : x13_3 < (t_0.length : Int) := of_decide_eq_true (by first | (with_reducible assumption) | assumption); obtain ⟨d_2, e670, m_0, m_1⟩ := Y1Z (Kd.R_reads' HO_12.out).2.2 x13_3 p670 q670; obtain rfl : d_0 = d_2 := (by injection e670); have hn670_0 : d_0.block ≠ g_0 := Kd.own_blk (Kd.R_ne HO_12.out B_2.out (by decide)); have hn670_1 : d_0.block ≠ g_0 := Kd.own_blk (Kd.R_ne HO_12.out B_2.out (by decide)); have hn670_2 : d_0.block ≠ g_0 := Kd.own_blk (Kd.R_ne HO_12.out B_2.out (by decide)); have hn670_3 : d_0.block ≠ g_0 := Kd.own_blk (Kd.R_ne HO_12.out B_2.out (by decide)); have hn670_4 : d_0.block ≠ g_0 := Kd.own_blk (Kd.R_ne HO_12.out B_2.out (by decide)); have hn670_5 : d_0.block ≠ g_0 := Kd.own_blk (Kd.R_ne HO_12.out B_2.out (by decide)); have hn670_6 : d_0.block ≠ g_0 := Kd.own_blk (Kd.R_ne HO_12.out B_2.out (by decide)); replace m_0 := (YT (p := ⟨g_0, 0, none⟩) (by first | (rw [YQ]; exact hn670_0) | (show (Addr.add _ _).block ≠ _; rw [YQ]; exact hn670_0) | exact hn670_0) (.int .i64 t_4)).trans m_0; replace m_1 := (YT (p := ⟨g_0, 0, none⟩) (by first | (rw [YQ]; exact hn670_0) | (show (Addr.add _ _).block ≠ _; rw [YQ]; exact hn670_0) | exact hn670_0) (.int .i64 t_4)).trans m_1; replace m_0 := (YT (p := ⟨g_0, 1, none⟩) (by first | (rw [YQ]; exact hn670_1) | (show (Addr.add _ _).block ≠ _; rw [YQ]; exact hn670_1) | exact hn670_1) (.int .i64 t_5)).trans m_0; replace m_1 := (YT (p := ⟨g_0, 1, none⟩) (by first | (rw [YQ]; exact hn670_1) | (show (Addr.add _ _).block ≠ _; rw [YQ]; exact hn670_1) | exact hn670_1) (.int .i64 t_5)).trans m_1; replace m_0 := (YT (p := ⟨g_0, 2, none⟩) (by first | (rw [YQ]; exact hn670_2) | (show (Addr.add _ _).block ≠ _; rw [YQ]; exact hn670_2) | exact hn670_2) (.int .i64 t_2)).trans m_0; replace m_1 := (YT (p := ⟨g_0, 2, none⟩) (by first | (rw [YQ]; exact hn670_2) | (show (Addr.add _ _).block ≠ _; rw [YQ]; exact hn670_2) | exact hn670_2) (.int .i64 t_2)).trans m_1; replace m_0 := (YT (p := ⟨g_0, 3, none⟩) (by first | (rw [YQ]; exact hn670_3) | (show (Addr.add _ _).block ≠ _; rw [YQ]; exact hn670_3) | exact hn670_3) (.int .i64 t_1)).trans m_0; replace m_1 := (YT (p := ⟨g_0, 3, none⟩) (by first | (rw [YQ]; exact hn670_3) | (show (Addr.add _ _).block ≠ _; rw [YQ]; exact hn670_3) | exact hn670_3) (.int .i64 t_1)).trans m_1; replace m_0 := (YT (p := ⟨g_0, 4, none⟩) (by first | (rw [YQ]; exact hn670_4) | (show (Addr.add _ _).block ≠ _; rw [YQ]; exact hn670_4) | exact hn670_4) (.int .i64 t_6)).trans m_0; replace m_1 := (YT (p := ⟨g_0, 4, none⟩) (by first | (rw [YQ]; exact hn670_4) | (show (Addr.add _ _).block ≠ _; rw [YQ]; exact hn670_4) | exact hn670_4) (.int .i64 t_6)).trans m_1; replace m_0 := (YT (p := ⟨g_0, 5, none⟩) (by first | (rw [YQ]; exact hn670_5) | (show (Addr.add _ _).block ≠ _; rw [YQ]; exact hn670_5) | exact hn670_5) (.int .i64 t_7)).trans m_0; replace m_1 := (YT (p := ⟨g_0, 5, none⟩) (by first | (rw [YQ]; exact hn670_5) | (show (Addr.add _ _).block ≠ _; rw [YQ]; exact hn670_5) | exact hn670_5) (.int .i64 t_7)).trans m_1; replace m_0 := (YT (p := ⟨g_0, 6, none⟩) (by first | (rw [YQ]; exact hn670_6) | (show (Addr.add _ _).block ≠ _; rw [YQ]; exact hn670_6) | exact hn670_6) (.int .i64 t_3)).trans m_0; replace m_1 := (YT (p := ⟨g_0, 6, none⟩) (by first | (rw [YQ]; exact hn670_6) | (show (Addr.add _ _).block ≠ _; rw [YQ]; exact hn670_6) | exact hn670_6) (.int .i64 t_3)).trans m_1; clear hn670_0; clear hn670_1; clear hn670_2; clear hn670_3; clear hn670_4; clear hn670_5; clear hn670_6; replace p670 := eq_true p670; replace q670 := eq_true q670) | ((with_reducible refine Y13 (b := .append) (xs := #[.tmp 80, .tmp 85]) rfl ?_); (try (refine Y16 (by rfl) ?_; dsimp only)); at_builtin; refine Kd.R_append k26 (w0 := w) w.heap.size rfl (.tmp 80) (.tmp 85) 39 26 (.agg #[(.int .i64 0), (.int .i64 0)]) 16 rfl Try.underlying39 Y1M rfl (by decide) (by omega) u11 x11_3 (⟨(Yx t_0 x13_3).f0, (Yx t_0 x13_3).f1⟩ : S26) [.int .i64 ((Yx t_0 x13_3).f0), .int .i64 ((Yx t_0 x13_3).f1)] (fun k_ => some k_ ≠ (.slice (some d_0) t_0.length co22 : Value).ownBlock) (fun _ => False) rfl (by first | (go_simp; done) | (go_simp; rfl)) ?aP (fun _ hk => hk.elim) ?aF ?aO ?aB ?aS ?aL ?_; (case aP => exact Y1Q _ _ _ (⟨(Yx t_0 x13_3).f0, (Yx t_0 x13_3).f1⟩ : S26)); (case aB => exact (hU HB.out)); (case aF => exact (fun k_ hk => Kd.fresh' (Kd.R_lt (by (with_reducible repeat (first | apply Kd.R_alloc | apply Kd.R_drewN | apply Kd.R_drew)); exact (Kd.R_mono (rf7 (g := g_0) (Kd.R_types HO_12.out B_2.out (by decide)) (fun _ hk => hk.2)) (fun _ h_ => h_.1)))) k_ hk)); (case aO => exact (by (with_reducible repeat (first | apply Kd.R_alloc | apply Kd.R_drewN | apply Kd.R_drew)); exact Kd.R_mono (rf7 (g := g_0) (Kd.R_types HO_11.out B_2.out (by decide)) (fun _ hk => hk.2)) (fun _ hk => hk.1))); (case aS => exact (Yn (hU HB.out))); (case aL => have := LMc131.out; omega); intro v_2 w156 ho hb hg hat; rw [← Ny671.out] at ho; have n0_ := Y0.mk (Kd.R_over' (by (with_reducible repeat (first | apply Kd.R_alloc | apply Kd.R_drewN | apply Kd.R_drew)); exact (Kd.R_mono (rf7 (g := g_0) (Kd.R_mono HO_10.out (fun k_ hk => (⟨hk, hk.2⟩ : _ ∧ k_ ≠ g_0))) (fun _ hk => hk.2)) (fun _ h_ => h_.1))) (Kd.R_typed (by (with_reducible repeat (first | apply Kd.R_alloc | apply Kd.R_drewN | apply Kd.R_drew)); exact (Kd.R_mono (rf7 (g := g_0) (Kd.R_types HO_11.out B_2.out (by decide)) (fun _ hk => hk.2)) (fun _ h_ => h_.1)))) (by decide) hg); have n1_ := Y0.mk (Kd.R_after (ok := (fun _ => True)) (by (with_reducible repeat (first | apply Kd.R_alloc | apply Kd.R_drewN | apply Kd.R_drew)); exact Kd.R_mono (rf7 (g := g_0) (Kd.R_types HO_12.out B_2.out (by decide)) (fun _ hk => hk.2)) (fun _ hk => ⟨trivial, hk.1⟩)) hg hat); have n2_ := Y0.mk (Y1n (g := g_2) (o := .cells #[.int .i64 a0_0, .slice A0_1 l0_1.length c0_1] 24 (0, 0)) (by (iterate 7 ((with_reducible repeat (first | refine Y6 ?_ _ | refine Y8 ?_ | refine Y5 ?_ _)); refine (Below.heap_setCell _ ⟨_, _, none⟩ _ _ N_2.out).trans ?_)); (with_reducible repeat (first | refine Y6 ?_ _ | refine Y8 ?_ | refine Y5 ?_ _)); exact B_0.out) hg (Kd.R_ne HO_11.out B_0.out (by decide))); have n3_ := Y0.mk (Y1n (g := g_1) (o := .cells #[.int .i64 t_c, .int .i64 t_8, .int .i64 t_a, .int .i64 t_b, .int .i64 t_9, .bool false, .int .i64 t_4, .int .i64 t_5, .int .i64 t_2, .int .i64 t_1, .int .i64 t_6, .int .i64 t_7, .int .i64 t_3] 30 (0, 0)) (by (iterate 7 ((with_reducible repeat (first | refine Y6 ?_ _ | refine Y8 ?_ | refine Y5 ?_ _)); refine (Below.heap_setCell _ ⟨_, _, none⟩ _ _ N_3.out).trans ?_)); (with_reducible repeat (first | refine Y6 ?_ _ | refine Y8 ?_ | refine Y5 ?_ _)); exact B_1.out) hg (Kd.R_ne HO_11.out B_1.out (by decide))); have n4_ := Y0.mk (Y1n (g := g_0) (o := .cells #[.int .i64 t_4, .int .i64 t_5, .int .i64 t_2, .int .i64 t_1, .int .i64 t_6, .int .i64 t_7, .int .i64 t_3] 28 (0, 0)) (by (with_reducible repeat (first | refine Y6 ?_ _ | refine Y8 ?_ | refine Y5 ?_ _)); apply Yt; (iterate 6 ((with_reducible repeat (first | refine Y6 ?_ _ | refine Y8 ?_ | refine Y5 ?_ _)); apply Y1q)); (with_reducible repeat (first | refine Y6 ?_ _ | refine Y8 ?_ | refine Y5 ?_ _)); exact B_2.out; simp only [List.setIfInBounds_toArray, List.set_cons_zero, List.set_cons_succ]) hg (Kd.R_ne HO_11.out B_2.out (by decide))); have n5_ := Y0.mk (hb); have n6_ := Y0.mk (ho); clear HO_10; clear HO_12; clear B_0; clear B_1; clear B_2; clear HB; clear HO_11; have HO_10 := n0_; have HO_12 := n1_; have B_0 := n2_; have B_1 := n3_; have B_2 := n4_; have HB := n5_; have O_2 := n6_; clear n0_ n1_ n2_ n3_ n4_ n5_ n6_; clear ho hb hg hat))
             go_roundg k3
             case measure => have := HJ5.out; have := HJ11.out; have := HK3.out; omega
             case rel => exact ⟨(x10_3), (y671), (wrap64 (x13_3 + 1)), reS, H', ⟨by have := HJ5.out; have := HJ11.out; have := HK3.out; omega⟩, ⟨by (with_reducible repeat (first | apply Kd.R_alloc | apply Kd.R_drewN | apply Kd.R_drew)); exact Kd.R_mono HO_10.out (fun _ hk => trivial)⟩, ⟨by (with_reducible repeat (first | apply Kd.R_alloc | apply Kd.R_drewN | apply Kd.R_drew)); exact O_2.out⟩, ⟨by (with_reducible repeat (first | apply Kd.R_alloc | apply Kd.R_drewN | apply Kd.R_drew)); exact Kd.R_mono HO_12.out (fun _ hk => hk.2)⟩, ⟨kB B_0⟩, ⟨hU HB.out⟩⟩
          ·rw [if_neg c18] at H
           have c18b0 := decide_eq_false c18
           clear c18
           obtain ⟨t_g, A1570, H⟩ := bS H
           replace H : (some (t_g, x11_3, 0)) = some (r1, r2, r3) := H
           have A157 := Y0.mk A1570
           clear A1570
           simp only [Option.some.injEq, Prod.mk.injEq] at H
           obtain ⟨rfl, rfl, rfl⟩ := H
           obtain ⟨Ao158, co158, eo158⟩ := Kd.R_slice HO_12.out
           subst eo158
           obtain ⟨Ao159, co159, eo159⟩ := Kd.R_slice HO_10.out
           subst eo159
           go_wp2_with (first | ((with_reducible refine Yh (f := 74) rfl ?_); refine goesA (some 88) Try.func74 #[.slice Ao159 x10_3.length co159] ?_; (with_reducible refine (Yd.calls k3 _ _ x10_3 t_g _ ?side1 ?side2 A157.out).mono ?_); (case side1 => repeat (first | exact (Kd.R_reads' HO_10.out).2.2 | (with_reducible refine Kd.C_alloc ?_ _) | (with_reducible refine Kd.C_drewN ?_ _) | (with_reducible refine Kd.C_drew ?_))); (case side2 => exact (Kd.R_reads' HO_10.out).2.1); rintro e w160 ⟨v_5, rfl, ho0, hb⟩; refine ⟨_, rfl, ?_⟩; replace HO_11 := Y0.mk (Kd.R_below (Kd.rU HO_11.out) hb); replace HO_12 := Y0.mk (Kd.R_below (Kd.rU HO_12.out) hb); replace O_4 := Y0.mk (Kd.R_lower (Kd.R_new' ho0 (Kd.R_lt (Kd.rU HO_10.out))) (Yn (hU HB.out))); replace HO_10 := Y0.mk (Kd.R_elder' (Kd.rU HO_10.out) (Kd.R_base ho0) hb); replace B_0 := Y0.mk (Y2 (bU B_0.out) hb); replace HB := Y0.mk (Y4 (hU HB.out) hb); (try clear hb); (try clear hb2); (try clear hk); (try clear hi); (try clear ho0)))
           go_ret3
           exact ⟨_, _, reT, by (with_reducible repeat (first | apply Kd.R_alloc | apply Kd.R_drewN | apply Kd.R_drew)); exact Kd.R_mono O_4.out (fun _ hk => trivial), by (with_reducible repeat (first | apply Kd.R_alloc | apply Kd.R_drewN | apply Kd.R_drew)); exact Kd.R_mono HO_11.out (fun _ hk => trivial), hU HB.out⟩
 ·rw [if_neg c5] at H
  have c5b0 := bqF c5
  have c5b1 := bnT c5
  simp only [Option.some.injEq, Prod.mk.injEq] at H
  obtain ⟨rfl, rfl, rfl⟩ := H
  go_enter Try.func24, Try.ntmps24
  go_wp2_with (first | ((with_reducible refine Yj (N := 3) rfl ?_); (try (refine Y16 (by rfl) ?_; dsimp only)); refine Yl ?hg (N := 3) ?hd (cs := #[.int .i64 a0_0, .slice A0_1 l0_1.length c0_1]) (t := 24) ?hr ?_; (case hd => rfl); (case hg => rfl); (case hr => first | (go_simp; done) | (go_simp; rfl)); intro g_2 hg w161 hbox hb; have n0_ := Y0.mk (Y4 (hU HB.out) hb); have n1_ := Y0.mk (hbox); have n2_ := gE hg HB; have n3_ := gE hg HB; clear HB; have HB := n0_; have B_0 := n1_; have W_2 := n2_; have G_2 := n3_; clear n0_ n1_ n2_ n3_; clear hb hbox hg; have z_5 := Y1 B_0.out; have f_9 := Y3 B_0.out) | ((with_reducible refine Yh (f := 34) rfl ?_); refine goesA (some 18) Try.func34 #[.agg #[.int .i64 a0_0, .slice A0_1 l0_1.length c0_1]] ?_; (with_reducible refine (Y9.calls k a0_0 _ _ l0_1 t_d _ ?side1 ?side2 A4.out).mono ?_); (case side1 => repeat (first | exact (Kd.C_below HR0_1.out HB.out) | (with_reducible refine Kd.C_alloc ?_ _) | (with_reducible refine Kd.C_drewN ?_ _) | (with_reducible refine Kd.C_drew ?_))); (case side2 => exact HC0_1.out); rintro e w163 ⟨rfl, hb⟩; refine ⟨_, rfl, ?_⟩; replace B_0 := Y0.mk (Y2 (bU B_0.out) hb); replace HB := Y0.mk (Y4 (hU HB.out) hb); (try clear hb); (try clear hb2); (try clear hk); (try clear hi)))
  go_ret3
  exact ⟨_, _, reT, by first | exact Kd.R_nil _ _ _ _ _ | exact Kd.N_nil _ _ _ _ _ | exact Kd.V_nil _ _ _ _ _ | exact Kd.Q_nil _ _ _ _ _ | exact Kd.S_nil _ _ _ _ _, by first | exact Kd.R_nil _ _ _ _ _ | exact Kd.N_nil _ _ _ _ _ | exact Kd.V_nil _ _ _ _ _ | exact Kd.Q_nil _ _ _ _ _ | exact Kd.S_nil _ _ _ _ _, hU HB.out⟩
end Go.Proofs.Yteopkkoblbmggaa.P
end

/- Texts of this claim in one: VP45; no condition. -/
import Derived.Test.YteopkkoblbmggaaDAC
import Derived.Test.YteopkkoblbmggaaDAE
import Derived.Test.YteopkkoblbmggaaDAO
import Derived.Test.YteopkkoblbmggaaDAP
import Derived.Test.YteopkkoblbmggaaDAJ
import Derived.Test.YteopkkoblbmggaaDAI
section
namespace Go.Proofs.Yteopkkoblbmggaa.P
open Go.RowKit Go.Proofs.YteopkkoblbmggaaW.PrintWords Go.Proofs.YteopkkoblbmggaaW.PrintLast Go.Proofs.YteopkkoblbmggaaW.PrintMore
attribute [local go_sem] YO YQ Y10 Y11 YG YH YP YR
set_option linter.unusedVariables false
set_option linter.unusedSimpArgs false
mutual
def Y4.l0 : Nat → Int → List Int → List (S30) → Int → Int → List (S30) → Option (Bool)
 | 0, _, _, _, _, _, _ => none
 | k + 1, x1, x2, x7, x8, x_1, x_0 => if x8 < (x_0.length : Int) then (if x8 < (x2.length : Int) then (if 0 ≤ x8 then (if (IntKind.u64.wrap (wrap64 ((x7.length : Int) + 1))) = 0 then (none) else (if 0 ≤ (wrap64 (Int.tmod (IntKind.u64.wrap (rd x2 x8)) (IntKind.u64.wrap (wrap64 ((x7.length : Int) + 1))))) then (if (wrap64 (Int.tmod (IntKind.u64.wrap (rd x2 x8)) (IntKind.u64.wrap (wrap64 ((x7.length : Int) + 1))))) ≤ (x7.length : Int) then ((some (x7.take ((wrap64 (Int.tmod (IntKind.u64.wrap (rd x2 x8)) (IntKind.u64.wrap (wrap64 ((x7.length : Int) + 1))))) : Int).toNat : List (S30))).bind fun y743 => (if ([] : List (S30)).length + y743.length < 1353245080339 then ((some (([] : List (S30)) ++ y743 : List (S30))).bind fun y747 => (if y747.length < 1353245080339 then ((some (y747 ++ [(⟨(⟨(Y7 x_0 x8).f0.f0, (Y7 x_0 x8).f0.f1⟩ : S26), (Y7 x_0 x8).f1, (⟨(Y7 x_0 x8).f2.f0, (Y7 x_0 x8).f2.f1⟩ : S26), (Y7 x_0 x8).f3, (⟨(Y7 x_0 x8).f4.f0, (Y7 x_0 x8).f4.f1, (Y7 x_0 x8).f4.f2, (Y7 x_0 x8).f4.f3, (Y7 x_0 x8).f4.f4, (Y7 x_0 x8).f4.f5, (Y7 x_0 x8).f4.f6⟩ : S28)⟩ : S30)] : List (S30))).bind fun y751 => ((some (x7.drop ((wrap64 (Int.tmod (IntKind.u64.wrap (rd x2 x8)) (IntKind.u64.wrap (wrap64 ((x7.length : Int) + 1))))) : Int).toNat : List (S30))).bind fun y754 => (if y751.length + y754.length < 1353245080339 then (Y4.l0 k x1 x2 (y751 ++ y754) (wrap64 (x8 + 1)) x_1 x_0) else (none)))) else (none))) else (none))) else (none)) else (none))) else (none)) else (if 0 ≤ (x7.length : Int) then ((some (x7.take 0 : List (S30))).bind fun y761 => (if ([] : List (S30)).length + y761.length < 1353245080339 then ((some (([] : List (S30)) ++ y761 : List (S30))).bind fun y765 => (if 0 ≤ x8 then (if y765.length < 1353245080339 then ((some (y765 ++ [(⟨(⟨(Y7 x_0 x8).f0.f0, (Y7 x_0 x8).f0.f1⟩ : S26), (Y7 x_0 x8).f1, (⟨(Y7 x_0 x8).f2.f0, (Y7 x_0 x8).f2.f1⟩ : S26), (Y7 x_0 x8).f3, (⟨(Y7 x_0 x8).f4.f0, (Y7 x_0 x8).f4.f1, (Y7 x_0 x8).f4.f2, (Y7 x_0 x8).f4.f3, (Y7 x_0 x8).f4.f4, (Y7 x_0 x8).f4.f5, (Y7 x_0 x8).f4.f6⟩ : S28)⟩ : S30)] : List (S30))).bind fun y769 => ((some (x7.drop 0 : List (S30))).bind fun y772 => (if y769.length + y772.length < 1353245080339 then (Y4.l0 k x1 x2 (y769 ++ y772) (wrap64 (x8 + 1)) x_1 x_0) else (none)))) else (none)) else (none))) else (none))) else (none))) else (Y4.l1 k x7 0 x_1 x_0 (wrap64 (1 + (Int.tmod (wrap64 (x1)) 64))) ([] : List (S30)))
def Y4.l1 : Nat → List (S30) → Int → Int → List (S30) → Int → List (S30) → Option (Bool)
 | 0, _, _, _, _, _, _ => none
 | k + 1, x7, x12, x_1, x_0, x_3, x_2 => if x12 < (x_0.length : Int) then (Y4.l2 k x7 x12 0 x_1 x_0 x_3 x_2) else ((Yd.f k x_2 x_0).bind fun t_8 => (if t_8 = true then ((Y8.f k).bind fun t_3 => (some t_3)) else (none)))
def Y4.l2 : Nat → List (S30) → Int → Int → Int → List (S30) → Int → List (S30) → Option (Bool)
 | 0, _, _, _, _, _, _, _ => none
 | k + 1, x7, x12, x13, x_1, x_0, x_3, x_2 => if x13 < (x7.length : Int) then (if 0 ≤ x13 then ((Yt.f x_3 x_2 ((Y7 x7 x13).f0.f0) ((Y7 x7 x13).f0.f1) ((Y7 x7 x13).f1) ((Y7 x7 x13).f2.f0) ((Y7 x7 x13).f2.f1) ((Y7 x7 x13).f3) ((Y7 x7 x13).f4.f0) ((Y7 x7 x13).f4.f1) ((Y7 x7 x13).f4.f2) ((Y7 x7 x13).f4.f3) ((Y7 x7 x13).f4.f4) ((Y7 x7 x13).f4.f5) ((Y7 x7 x13).f4.f6)).bind fun b_0 => (if b_0.2.2 = 6 then (Y4.l2 k x7 x12 (wrap64 (x13 + 1)) x_1 x_0 x_3 x_2) else (if b_0.2.2 = 0 then (if b_0.1 = x_3 then (Y4.l2 k x7 x12 (wrap64 (x13 + 1)) x_1 x_0 b_0.1 b_0.2.1) else (none)) else (none)))) else (none)) else (Y4.l1 k x7 (wrap64 (x12 + 1)) x_1 x_0 x_3 x_2)
end
def Y4.f (k : Nat) (a0_0 : Int) (l0_1 : List (S30)) (a1 : Int) (l2 : List Int) : Option (Bool) := (Yw.f a0_0 l0_1).bind fun t_7 => (if t_7 = true then ((Y8.f k).bind fun t_4 => (some t_4)) else ((Yp.f a0_0 l0_1).bind fun t_5 => (if t_5 = 0 then (Y4.l0 k a1 l2 ([] : List (S30)) 0 a0_0 l0_1) else ((Y8.f k).bind fun t_6 => (some t_6)))))
theorem Y4.mono_l : ∀ k, (∀ y0 y1 y2 y3 y4 y5, LeO (Y4.l0 k y0 y1 y2 y3 y4 y5) (Y4.l0 (k + 1) y0 y1 y2 y3 y4 y5)) ∧ (∀ y0 y1 y2 y3 y4 y5, LeO (Y4.l1 k y0 y1 y2 y3 y4 y5) (Y4.l1 (k + 1) y0 y1 y2 y3 y4 y5)) ∧ (∀ y0 y1 y2 y3 y4 y5 y6, LeO (Y4.l2 k y0 y1 y2 y3 y4 y5 y6) (Y4.l2 (k + 1) y0 y1 y2 y3 y4 y5 y6))
 | 0 => ⟨fun _ _ _ _ _ _ r h => by simp [Y4.l0] at h, fun _ _ _ _ _ _ r h => by simp [Y4.l1] at h, fun _ _ _ _ _ _ _ r h => by simp [Y4.l2] at h⟩
 | k + 1 => by
  obtain ⟨ih0, ih1, ih2⟩ := Y4.mono_l k
  refine ⟨?_, ?_, ?_⟩
  ·intro y0 y1 y2 y3 y4 y5
   unfold Y4.l0
   repeat' first
   | (with_reducible exact ih0 _ _ _ _ _ _)
   | (with_reducible exact ih1 _ _ _ _ _ _)
   | (with_reducible exact ih2 _ _ _ _ _ _ _)
   | (with_reducible exact Y8.mono _)
   | (with_reducible exact Yd.mono _ _ _)
   | (with_reducible exact LeO.refl _)
   | (with_reducible exact LeO.none _)
   | (with_reducible refine LeO.ite ?_ ?_)
   | (with_reducible refine LeO.bind ?_ (fun _ => ?_))
  ·intro y0 y1 y2 y3 y4 y5
   unfold Y4.l1
   repeat' first
   | (with_reducible exact ih0 _ _ _ _ _ _)
   | (with_reducible exact ih1 _ _ _ _ _ _)
   | (with_reducible exact ih2 _ _ _ _ _ _ _)
   | (with_reducible exact Y8.mono _)
   | (with_reducible exact Yd.mono _ _ _)
   | (with_reducible exact LeO.refl _)
   | (with_reducible exact LeO.none _)
   | (with_reducible refine LeO.ite ?_ ?_)
   | (with_reducible refine LeO.bind ?_ (fun _ => ?_))
  ·intro y0 y1 y2 y3 y4 y5 y6
   unfold Y4.l2
   repeat' first
   | (with_reducible exact ih0 _ _ _ _ _ _)
   | (with_reducible exact ih1 _ _ _ _ _ _)
   | (with_reducible exact ih2 _ _ _ _ _ _ _)
   | (with_reducible exact Y8.mono _)
   | (with_reducible exact Yd.mono _ _ _)
   | (with_reducible exact LeO.refl _)
   | (with_reducible exact LeO.none _)
   | (with_reducible refine LeO.ite ?_ ?_)
   | (with_reducible refine LeO.bind ?_ (fun _ => ?_))
theorem Y4.mono : ∀ a0 a1 a2 a3 k, LeO (Y4.f k a0 a1 a2 a3) (Y4.f (k + 1) a0 a1 a2 a3) := by
 intro a0 a1 a2 a3 k
 obtain ⟨ih0, ih1, ih2⟩ := Y4.mono_l k
 unfold Y4.f
 repeat' first
   | (with_reducible exact ih0 _ _ _ _ _ _)
   | (with_reducible exact ih1 _ _ _ _ _ _)
   | (with_reducible exact ih2 _ _ _ _ _ _ _)
   | (with_reducible exact Y8.mono _)
   | (with_reducible exact Yd.mono _ _ _)
   | (with_reducible exact LeO.refl _)
   | (with_reducible exact LeO.none _)
   | (with_reducible refine LeO.ite ?_ ?_)
   | (with_reducible refine LeO.bind ?_ (fun _ => ?_))
def Y4.T22 : Bool × List (List Nat × List Nat) := (true, [([], []), ([], []), ([], []), ([1, 2], [1, 2]), ([3], [3]), ([0, 4], [0, 4]), ([5], [5]), ([6], [6]), ([6], [6]), ([], []), ([9, 7, 5, 0, 1, 2, 3, 4, 5, 6, 7, 9], [7, 9]), ([8, 10, 0, 1, 2, 3, 4, 5, 6, 7, 8, 9, 10], [8])])
def Y4.B22 : List Nat := [0, 0, 0, 6, 14, 31, 63, 127, 127, 0, 767, 2047]
theorem Y4.tab22 : rtab .any (opsOf Try.f6 22) = Y4.T22 := by kernel_rfl
theorem Y4.bits22 : Y1k Y4.T22.2 Y4.B22 = true := by kernel_rfl
set_option maxHeartbeats 8000000 in
set_option maxRecDepth 100000 in
theorem Y4.calls (k : Nat) (a0_0 : Int) (A0_1 : Option Addr) (c0_1 : Nat) (l0_1 : List (S30)) (a1 : Int) (A2 : Option Addr) (c2 : Nat) (l2 : List Int) (r : Bool) (w : World) (hr0_1 : Kd.C k30 w A0_1 l0_1.length l0_1) (hc0_1 : l0_1.length ≤ c0_1) (hr2 : Kd.C (Kd.int .i64) w A2 l2.length l2) (hc2 : l2.length ≤ c2) (h : Y4.f k a0_0 l0_1 a1 l2 = some r) :
  Calls Try.prog 6 #[.agg #[.int .i64 a0_0, .slice A0_1 l0_1.length c0_1], .int .u8 a1, .slice A2 l2.length c2] w fun e w' => e = .returned (.bool r) ∧ Below w.heap.size w w' := by
 have hu24 := Try.underlying24
 have hu30 := Try.underlying30
 have HR0_1 := Y0.mk hr0_1
 have HC0_1 := Y0.mk hc0_1
 clear hr0_1 hc0_1
 have HR2 := Y0.mk hr2
 have HC2 := Y0.mk hc2
 clear hr2 hc2
 have HB := Y0.mk (Below.refl w.heap.size w)
 have H : ((Yw.f a0_0 l0_1).bind fun t_7 => (if t_7 = true then ((Y8.f k).bind fun t_4 => (some t_4)) else ((Yp.f a0_0 l0_1).bind fun t_5 => (if t_5 = 0 then (Y4.l0 k a1 l2 ([] : List (S30)) 0 a0_0 l0_1) else ((Y8.f k).bind fun t_6 => (some t_6)))))) = some r := h
 clear h
 obtain ⟨t_7, A40, H⟩ := bS H
 try dsimp only at H
 have A4 := Y0.mk A40
 clear A40
 by_cases c5 : t_7 = true
 ·subst c5
  have H1 : ((Y8.f k).bind fun t_4 => (some t_4)) = some r := by rw [if_pos rfl] at H; exact H
  clear H
  have H := H1
  clear H1
  obtain ⟨t_4, A60, H⟩ := bS H
  replace H : (some t_4) = some r := H
  have A6 := Y0.mk A60
  clear A60
  obtain rfl := Option.some.inj H
  go_enter Try.func6, Try.ntmps6
  go_wp2_with (first | ((with_reducible refine Yf (N := 3) rfl ?_); refine Yn ?hg (N := 3) ?hd (cs := #[.int .i64 a0_0, .slice A0_1 l0_1.length c0_1]) (t := 24) ?hr ?_; (case hd => rfl); (case hg => rfl); (case hr => first | (go_simp; done) | (go_simp; rfl)); intro g_2 hg w7 hbox hb; have n0_ := Y0.mk (Y5 (hU HB.out) hb); have n1_ := Y0.mk (hbox); have n2_ := gE hg HB; have n3_ := gE hg HB; clear HB; have HB := n0_; have B_1 := n1_; have W_1 := n2_; have G_1 := n3_; clear n0_ n1_ n2_ n3_; clear hb hbox hg; have z_2 := Y1 B_1.out; have f_1 := Y6 B_1.out) | ((with_reducible refine Yc (f := 22) rfl ?_); refine goesA (some 17) Try.func22 #[.agg #[.int .i64 a0_0, .slice A0_1 l0_1.length c0_1]] ?_; (with_reducible refine (Yw.calls a0_0 _ _ l0_1 true _ ?side1 ?side2 A4.out).mono ?_); (case side1 => repeat (first | exact (Kd.C_below HR0_1.out HB.out) | (with_reducible refine Kd.C_alloc ?_ _) | (with_reducible refine Kd.C_drewN ?_ _) | (with_reducible refine Kd.C_drew ?_))); (case side2 => exact HC0_1.out); rintro e w9 ⟨rfl, hb⟩; refine ⟨_, rfl, ?_⟩; replace B_1 := Y0.mk (Y3 (bU B_1.out) hb); replace HB := Y0.mk (Y5 (hU HB.out) hb); (try clear hb); (try clear hb2); (try clear hk); (try clear hi)) | ((with_reducible refine Yc (f := 18) rfl ?_); refine goesA (some 23) Try.func18 #[] ?_; (with_reducible refine (Y8.calls k  t_4 _ A6.out).mono ?_); rintro e w10 ⟨rfl, hb⟩; refine ⟨_, rfl, ?_⟩; replace B_1 := Y0.mk (Y3 (bU B_1.out) hb); replace HB := Y0.mk (Y5 (hU HB.out) hb); (try clear hb); (try clear hb2); (try clear hk); (try clear hi)))
  go_ret
  exact ⟨reT, hU HB.out⟩
 ·replace c5 := Bool.eq_false_iff.mpr c5
  subst c5
  rw [if_neg (show ¬ (false = true) by decide)] at H
  obtain ⟨t_5, A110, H⟩ := bS H
  try dsimp only at H
  have A11 := Y0.mk A110
  clear A110
  by_cases c12 : t_5 = 0
  ·rw [if_pos c12] at H
   have c12b0 := bqT c12
   have c12b1 := bnF c12
   clear c12
   have H' := Y0.mk H
   clear H
   go_enter Try.func6, Try.ntmps6
   go_wp2_with (first | ((with_reducible refine Yf (N := 3) rfl ?_); refine Yn ?hg (N := 3) ?hd (cs := #[.int .i64 a0_0, .slice A0_1 l0_1.length c0_1]) (t := 24) ?hr ?_; (case hd => rfl); (case hg => rfl); (case hr => first | (go_simp; done) | (go_simp; rfl)); intro g_2 hg w13 hbox hb; have n0_ := Y0.mk (Y5 (hU HB.out) hb); have n1_ := Y0.mk (hbox); have n2_ := gE hg HB; have n3_ := gE hg HB; clear HB; have HB := n0_; have B_1 := n1_; have W_1 := n2_; have G_1 := n3_; clear n0_ n1_ n2_ n3_; clear hb hbox hg; have z_1 := Y1 B_1.out; have f_2 := Y6 B_1.out) | ((with_reducible refine Yc (f := 22) rfl ?_); refine goesA (some 17) Try.func22 #[.agg #[.int .i64 a0_0, .slice A0_1 l0_1.length c0_1]] ?_; (with_reducible refine (Yw.calls a0_0 _ _ l0_1 false _ ?side1 ?side2 A4.out).mono ?_); (case side1 => repeat (first | exact (Kd.C_below HR0_1.out HB.out) | (with_reducible refine Kd.C_alloc ?_ _) | (with_reducible refine Kd.C_drewN ?_ _) | (with_reducible refine Kd.C_drew ?_))); (case side2 => exact HC0_1.out); rintro e w15 ⟨rfl, hb⟩; refine ⟨_, rfl, ?_⟩; replace B_1 := Y0.mk (Y3 (bU B_1.out) hb); replace HB := Y0.mk (Y5 (hU HB.out) hb); (try clear hb); (try clear hb2); (try clear hk); (try clear hi); have z_0 := Y1 B_1.out; have f_0 := Y6 B_1.out) | (go_at_call 29; (with_reducible refine (Yp.calls a0_0 _ _ l0_1 t_5 _ ?side1 ?side2 A11.out).mono ?_); (case side1 => repeat (first | exact (Kd.C_below HR0_1.out HB.out) | (with_reducible refine Kd.C_alloc ?_ _) | (with_reducible refine Kd.C_drewN ?_ _) | (with_reducible refine Kd.C_drew ?_))); (case side2 => exact HC0_1.out); rintro e w17 ⟨rfl, hb⟩; replace B_1 := Y0.mk (Y3 (bU B_1.out) hb); replace HB := Y0.mk (Y5 (hU HB.out) hb); (try clear hb); (try clear hb2); (try clear hk); (try clear hi)))
   go_loopg [7, 8] k (fun kq v7 v8 w' => ∃ (x7_1 : List (S30)) (x8_1 : Int), v8 = .int .i64 x8_1 ∧ Y0 (Y4.l0 kq a1 l2 x7_1 x8_1 a0_0 l0_1 = some r) ∧ Y0 (kq ≤ k) ∧ Y0 (Kd.R k30 30 w' w.heap.size (fun _ => True) v7 x7_1) ∧ Y0 (w'.heap[g_2]? = some (.cells #[.int .i64 a0_0, (.slice A0_1 l0_1.length c0_1)] 24 (0, 0))) ∧ Y0 (Below w.heap.size w w'))
   case atStart => exact ⟨(([] : List (S30))), (0), reS, H', ⟨Nat.le_refl _⟩, ⟨by first | exact Kd.R_nil _ _ _ _ _ | exact Kd.N_nil _ _ _ _ _ | exact Kd.V_nil _ _ _ _ _ | exact Kd.Q_nil _ _ _ _ _ | exact Kd.S_nil _ _ _ _ _⟩, ⟨kB B_1⟩, ⟨hU HB.out⟩⟩
   case round =>
    clear H'
    try clear c1
    try clear c2
    try clear p2
    try clear c5
    try clear c6
    try clear c12
    try clear c12b0
    try clear c12b1
    try clear z_1
    try clear z_9
    try clear z_0
    try clear z_3
    try clear z_2
    try clear z_8
    try clear f_2
    try clear f_a
    try clear f_0
    try clear f_5
    try clear f_1
    try clear f_8
    obtain ⟨x7_1, x8_1, rfl, HA, HK1, HO_7, B_1, HB⟩ := hrel
    cases gk with
    | zero => exact absurd HA.out (by simp [Y4.l0])
    | succ k1 =>
     have H := HA.out
     clear HA
     simp only [Y4.l0] at H
     by_cases c18 : x8_1 < (l0_1.length : Int)
     ·rw [if_pos c18] at H
      have c18b0 := decide_eq_true c18
      clear c18
      by_cases c19 : x8_1 < (l2.length : Int)
      ·rw [if_pos c19] at H
       have c19b0 := decide_eq_true c19
       clear c19
       obtain ⟨c20, H⟩ := iS H
       have c20b0 := decide_eq_true c20
       clear c20
       by_cases c21 : (IntKind.u64.wrap (wrap64 ((x7_1.length : Int) + 1))) = 0
       ·rw [if_pos c21] at H
        exact absurd H (by simp)
       rw [if_neg c21] at H
       have c21b0 := bqF c21
       have c21b1 := bnT c21
       obtain ⟨ji22, hji22⟩ : ∃ j_ : Int, (wrap64 (Int.tmod (IntKind.u64.wrap (rd l2 x8_1)) (IntKind.u64.wrap (wrap64 ((x7_1.length : Int) + 1))))) = j_ := ⟨_, rfl⟩
       replace H : (if 0 ≤ (ji22) then (if (ji22) ≤ (x7_1.length : Int) then ((some (x7_1.take ((ji22) : Int).toNat : List (S30))).bind fun y743 => (if ([] : List (S30)).length + y743.length < 1353245080339 then ((some (([] : List (S30)) ++ y743 : List (S30))).bind fun y747 => (if y747.length < 1353245080339 then ((some (y747 ++ [(⟨(⟨(Y7 l0_1 x8_1).f0.f0, (Y7 l0_1 x8_1).f0.f1⟩ : S26), (Y7 l0_1 x8_1).f1, (⟨(Y7 l0_1 x8_1).f2.f0, (Y7 l0_1 x8_1).f2.f1⟩ : S26), (Y7 l0_1 x8_1).f3, (⟨(Y7 l0_1 x8_1).f4.f0, (Y7 l0_1 x8_1).f4.f1, (Y7 l0_1 x8_1).f4.f2, (Y7 l0_1 x8_1).f4.f3, (Y7 l0_1 x8_1).f4.f4, (Y7 l0_1 x8_1).f4.f5, (Y7 l0_1 x8_1).f4.f6⟩ : S28)⟩ : S30)] : List (S30))).bind fun y751 => ((some (x7_1.drop ((ji22) : Int).toNat : List (S30))).bind fun y754 => (if y751.length + y754.length < 1353245080339 then (Y4.l0 k1 a1 l2 (y751 ++ y754) (wrap64 (x8_1 + 1)) a0_0 l0_1) else (none)))) else (none))) else (none))) else (none)) else (none)) = some r := by first | (rw [hji22] at H; exact H) | (simp only [hji22] at H ⊢; exact H)
       have hji22w : (IntKind.i64.wrap (Int.tmod (IntKind.u64.wrap (rd l2 x8_1)) (IntKind.u64.wrap (wrap64 ((x7_1.length : Int) + 1))))) = ji22 := (i64_w _).trans hji22
       obtain ⟨c23, H⟩ := iS H
       have c23b0 := eq_true c23
       have c23b1 := decide_eq_true c23
       clear c23
       obtain ⟨c24, H⟩ := iS H
       have c24b0 := eq_true c24
       have c24b1 := decide_eq_true c24
       clear c24
       obtain ⟨y743, hy743⟩ : ∃ y_ : List (S30), y_ = (x7_1.take ((ji22) : Int).toNat) := ⟨_, rfl⟩
       replace H : (if ([] : List (S30)).length + y743.length < 1353245080339 then ((some (([] : List (S30)) ++ y743 : List (S30))).bind fun y747 => (if y747.length < 1353245080339 then ((some (y747 ++ [(⟨(⟨(Y7 l0_1 x8_1).f0.f0, (Y7 l0_1 x8_1).f0.f1⟩ : S26), (Y7 l0_1 x8_1).f1, (⟨(Y7 l0_1 x8_1).f2.f0, (Y7 l0_1 x8_1).f2.f1⟩ : S26), (Y7 l0_1 x8_1).f3, (⟨(Y7 l0_1 x8_1).f4.f0, (Y7 l0_1 x8_1).f4.f1, (Y7 l0_1 x8_1).f4.f2, (Y7 l0_1 x8_1).f4.f3, (Y7 l0_1 x8_1).f4.f4, (Y7 l0_1 x8_1).f4.f5, (Y7 l0_1 x8_1).f4.f6⟩ : S28)⟩ : S30)] : List (S30))).bind fun y751 => ((some (x7_1.drop ((ji22) : Int).toNat : List (S30))).bind fun y754 => (if y751.length + y754.length < 1353245080339 then (Y4.l0 k1 a1 l2 (y751 ++ y754) (wrap64 (x8_1 + 1)) a0_0 l0_1) else (none)))) else (none))) else (none)) = some r := by first | (rw [hy743]; with_reducible exact H) | (have H2_ := (Option.bind_some _ _).symm.trans H; rw [hy743]; with_reducible exact H2_) | (have H2_ := (Option.bind_some _ _).symm.trans H; with_reducible exact H2_) | with_reducible exact H | (rw [hy743]; exact H) | exact H
       have Ny743 := Y0.mk hy743
       clear hy743
       obtain ⟨c25, H⟩ := iS H
       have LMc25 := Y0.mk c25
       clear c25
       obtain ⟨y747, hy747⟩ : ∃ y_ : List (S30), y_ = (([] : List (S30)) ++ y743) := ⟨_, rfl⟩
       replace H : (if y747.length < 1353245080339 then ((some (y747 ++ [(⟨(⟨(Y7 l0_1 x8_1).f0.f0, (Y7 l0_1 x8_1).f0.f1⟩ : S26), (Y7 l0_1 x8_1).f1, (⟨(Y7 l0_1 x8_1).f2.f0, (Y7 l0_1 x8_1).f2.f1⟩ : S26), (Y7 l0_1 x8_1).f3, (⟨(Y7 l0_1 x8_1).f4.f0, (Y7 l0_1 x8_1).f4.f1, (Y7 l0_1 x8_1).f4.f2, (Y7 l0_1 x8_1).f4.f3, (Y7 l0_1 x8_1).f4.f4, (Y7 l0_1 x8_1).f4.f5, (Y7 l0_1 x8_1).f4.f6⟩ : S28)⟩ : S30)] : List (S30))).bind fun y751 => ((some (x7_1.drop ((ji22) : Int).toNat : List (S30))).bind fun y754 => (if y751.length + y754.length < 1353245080339 then (Y4.l0 k1 a1 l2 (y751 ++ y754) (wrap64 (x8_1 + 1)) a0_0 l0_1) else (none)))) else (none)) = some r := by first | (rw [hy747]; with_reducible exact H) | (have H2_ := (Option.bind_some _ _).symm.trans H; rw [hy747]; with_reducible exact H2_) | (have H2_ := (Option.bind_some _ _).symm.trans H; with_reducible exact H2_) | with_reducible exact H | (rw [hy747]; exact H) | exact H
       have Ny747 := Y0.mk hy747
       clear hy747
       obtain ⟨c26, H⟩ := iS H
       have LMc26 := Y0.mk c26
       clear c26
       obtain ⟨y751, hy751⟩ : ∃ y_ : List (S30), y_ = (y747 ++ [(⟨(⟨(Y7 l0_1 x8_1).f0.f0, (Y7 l0_1 x8_1).f0.f1⟩ : S26), (Y7 l0_1 x8_1).f1, (⟨(Y7 l0_1 x8_1).f2.f0, (Y7 l0_1 x8_1).f2.f1⟩ : S26), (Y7 l0_1 x8_1).f3, (⟨(Y7 l0_1 x8_1).f4.f0, (Y7 l0_1 x8_1).f4.f1, (Y7 l0_1 x8_1).f4.f2, (Y7 l0_1 x8_1).f4.f3, (Y7 l0_1 x8_1).f4.f4, (Y7 l0_1 x8_1).f4.f5, (Y7 l0_1 x8_1).f4.f6⟩ : S28)⟩ : S30)]) := ⟨_, rfl⟩
       replace H : ((some (x7_1.drop ((ji22) : Int).toNat : List (S30))).bind fun y754 => (if y751.length + y754.length < 1353245080339 then (Y4.l0 k1 a1 l2 (y751 ++ y754) (wrap64 (x8_1 + 1)) a0_0 l0_1) else (none))) = some r := by first | (rw [hy751]; with_reducible exact H) | (have H2_ := (Option.bind_some _ _).symm.trans H; rw [hy751]; with_reducible exact H2_) | (have H2_ := (Option.bind_some _ _).symm.trans H; with_reducible exact H2_) | with_reducible exact H | (rw [hy751]; exact H) | exact H
       have Ny751 := Y0.mk hy751
       clear hy751
       have c27b0 := eq_true (of_decide_eq_true (by first | (with_reducible assumption) | assumption) : 0 ≤ (ji22))
       have c28b0 := eq_true (of_decide_eq_true (by first | (with_reducible assumption) | assumption) : (ji22) ≤ (x7_1.length : Int))
       obtain ⟨y754, hy754⟩ : ∃ y_ : List (S30), y_ = (x7_1.drop ((ji22) : Int).toNat) := ⟨_, rfl⟩
       replace H : (if y751.length + y754.length < 1353245080339 then (Y4.l0 k1 a1 l2 (y751 ++ y754) (wrap64 (x8_1 + 1)) a0_0 l0_1) else (none)) = some r := by first | (rw [hy754]; with_reducible exact H) | (have H2_ := (Option.bind_some _ _).symm.trans H; rw [hy754]; with_reducible exact H2_) | (have H2_ := (Option.bind_some _ _).symm.trans H; with_reducible exact H2_) | with_reducible exact H | (rw [hy754]; exact H) | exact H
       have Ny754 := Y0.mk hy754
       clear hy754
       obtain ⟨c29, H⟩ := iS H
       have LMc29 := Y0.mk c29
       clear c29
       obtain ⟨y758, hy758⟩ : ∃ y_ : List (S30), y_ = (y751 ++ y754) := ⟨_, rfl⟩
       replace H : (Y4.l0 k1 a1 l2 y758 (wrap64 (x8_1 + 1)) a0_0 l0_1) = some r := by first | (rw [hy758]; with_reducible exact H) | (have H2_ := (Option.bind_some _ _).symm.trans H; rw [hy758]; with_reducible exact H2_) | (have H2_ := (Option.bind_some _ _).symm.trans H; with_reducible exact H2_) | with_reducible exact H | (rw [hy758]; exact H) | exact H
       have Ny758 := Y0.mk hy758
       clear hy758
       have H' := Y0.mk H
       clear H
       have z_4 := Y1 B_1.out
       have f_9 := Y6 B_1.out
       have p742 : 0 ≤ (x8_1 : Int) := of_decide_eq_true (by first | (with_reducible assumption) | assumption)
       have q742 : x8_1 < (l2.length : Int) := of_decide_eq_true (by first | (with_reducible assumption) | assumption)
       obtain ⟨d_1, e742, m_m⟩ := Kd.at_int HR2.out x8_1 p742 q742
       cases e742
       replace m_m := hbC HB m_m
       replace p742 := eq_true p742
       replace q742 := eq_true q742
       obtain ⟨Ao31, co31, eo31⟩ := Kd.R_slice HO_7.out
       subst eo31
       have q32 : ((ji22) : Int) ≤ ((x7_1.length : Int) : Int) := of_decide_eq_true (by first | (with_reducible assumption) | assumption)
       obtain ⟨i032, hi032, _, hsz32, _⟩ := info_parts Y1t
       have hroom32 : x7_1.length ≤ co31 := (Kd.R_reads' HO_7.out).2.1
       have hC32 : Kd.C k30 _ Ao31 x7_1.length x7_1 := (Kd.R_reads' HO_7.out).2.2
       have hcut32 := Y3V (P := Try.prog) 22 30 .i64 Try.underlying22 hi032 Ao31 x7_1.length co31 (ji22) (of_decide_eq_true (by first | (with_reducible assumption) | assumption)) q32 hroom32
       have hr32 := Kd.C_take (m := ((ji22) : Int).toNat) hC32 (by omega)
       have hy32 : y743.length = ((ji22) : Int).toNat := (by rw [Ny743.out, List.length_take]; omega)
       rw [← Ny743.out] at hr32
       rw [← hy32] at hcut32
       have HR746 := Y0.mk hr32
       have HC746 := Y0.mk (show y743.length ≤ co31 from by omega)
       clear hr32 hC32 hroom32 hi032 hsz32
       have KY32 := Y0.mk hy32
       clear hy32
       have KL32 := Y0.mk (show ((ji22) : Int).toNat ≤ x7_1.length from by omega)
       replace q32 := eq_true q32
       go_wp2_with (first | ((with_reducible refine YW (b := .append) (xs := #[.tmp 46, .tmp 49]) rfl ?_); at_builtin; refine Kd.R_append_rows k30 (w0 := w) w.heap.size rfl (.tmp 46) (.tmp 49) 22 30 (.agg #[(.int .i64 0), (.int .i64 0), (.int .i64 0), (.int .i64 0), (.int .i64 0), (.bool false), (.int .i64 0), (.int .i64 0), (.int .i64 0), (.int .i64 0), (.int .i64 0), (.int .i64 0), (.int .i64 0)]) 104 rfl Try.underlying22 Y1t rfl (by decide) (by omega) (.slice none 0 0) ([] : List (S30)) y743 _ _ _ (fun k_ => some k_ ≠ (.slice Ao31 x7_1.length co31 : Value).ownBlock) (fun _ => False) rfl rfl ?aO ?aR (fun _ _ h => h) (fun _ h => h.elim) ?aF ?aB ?aS ?aL ?_; (case aR => repeat (first | exact (by repeat (first | (with_reducible exact HR746.out) | (with_reducible refine Kd.C_alloc ?_ _) | (with_reducible refine Kd.C_drewN ?_ _) | (with_reducible refine Kd.C_drew ?_) | exact HR746.out)) | (with_reducible refine Kd.C_alloc ?_ _) | (with_reducible refine Kd.C_drewN ?_ _) | (with_reducible refine Kd.C_drew ?_))); (case aB => exact (hU HB.out)); (case aF => exact (fun k_ hk => Kd.fresh' (Kd.R_lt (Kd.rU HO_7.out)) k_ hk)); (case aO => exact ((Kd.R_nil _ _ _ _ (fun k_ => some k_ ≠ (.slice Ao31 x7_1.length co31 : Value).ownBlock)))); (case aS => exact (Yi (hU HB.out))); (case aL => have := LMc25.out; omega); intro v_1 w33 ho hb hg hat; rw [← Ny747.out] at ho; have n0_ := Y0.mk (Kd.R_after (Kd.R_apart_nil (Kd.rU HO_7.out)) hg hat); have n1_ := Y0.mk (Y1e (bU B_1.out) hg (by simp [Value.ownBlock])); have n2_ := Y0.mk (hb); have n3_ := Y0.mk ((show Kd.C k30 w33 Ao31 y743.length y743 from by rw [Ny743.out]; exact Kd.C_take (m := ((ji22) : Int).toNat) ((Kd.R_reads' (Kd.R_after (Kd.R_apart_nil (Kd.rU HO_7.out)) hg hat)).2.2) KL32.out)); have n4_ := Y0.mk (ho); clear HO_7; clear B_1; clear HB; clear HR746; have HO_7 := n0_; have B_1 := n1_; have HB := n2_; have HR746 := n3_; have O_2 := n4_; clear n0_ n1_ n2_ n3_ n4_; clear ho hb hg hat; have z_b := Y1 B_1.out; have f_6 := Y6 B_1.out; have p750 : 0 ≤ (x8_1 : Int) := of_decide_eq_true (by first | (with_reducible assumption) | assumption); have q750 : x8_1 < (l0_1.length : Int) := of_decide_eq_true (by first | (with_reducible assumption) | assumption); obtain ⟨d_2, e750, m_10, m_q, m_f, m_g, m_o, m_l, m_t, m_k, m_j, m_d, m_11, m_y, m_h⟩ := Y1i HR0_1.out x8_1 p750 q750; cases e750; replace m_10 := hbC HB m_10; replace m_q := hbC HB m_q; replace m_f := hbC HB m_f; replace m_g := hbC HB m_g; replace m_o := hbC HB m_o; replace m_l := hbC HB m_l; replace m_t := hbC HB m_t; replace m_k := hbC HB m_k; replace m_j := hbC HB m_j; replace m_d := hbC HB m_d; replace m_11 := hbC HB m_11; replace m_y := hbC HB m_y; replace m_h := hbC HB m_h; replace p750 := eq_true p750; replace q750 := eq_true q750) | ((with_reducible refine YW (b := .append) (xs := #[.tmp 51, .tmp 57]) rfl ?_); at_builtin; refine Kd.R_append k30 (w0 := w) w.heap.size rfl (.tmp 51) (.tmp 57) 22 30 (.agg #[(.int .i64 0), (.int .i64 0), (.int .i64 0), (.int .i64 0), (.int .i64 0), (.bool false), (.int .i64 0), (.int .i64 0), (.int .i64 0), (.int .i64 0), (.int .i64 0), (.int .i64 0), (.int .i64 0)]) 104 rfl Try.underlying22 Y1t rfl (by decide) (by omega) v_1 y747 (⟨(⟨(Y7 l0_1 x8_1).f0.f0, (Y7 l0_1 x8_1).f0.f1⟩ : S26), (Y7 l0_1 x8_1).f1, (⟨(Y7 l0_1 x8_1).f2.f0, (Y7 l0_1 x8_1).f2.f1⟩ : S26), (Y7 l0_1 x8_1).f3, (⟨(Y7 l0_1 x8_1).f4.f0, (Y7 l0_1 x8_1).f4.f1, (Y7 l0_1 x8_1).f4.f2, (Y7 l0_1 x8_1).f4.f3, (Y7 l0_1 x8_1).f4.f4, (Y7 l0_1 x8_1).f4.f5, (Y7 l0_1 x8_1).f4.f6⟩ : S28)⟩ : S30) [.int .i64 ((Y7 l0_1 x8_1).f0.f0), .int .i64 ((Y7 l0_1 x8_1).f0.f1), .int .i64 ((Y7 l0_1 x8_1).f1), .int .i64 ((Y7 l0_1 x8_1).f2.f0), .int .i64 ((Y7 l0_1 x8_1).f2.f1), .bool ((Y7 l0_1 x8_1).f3), .int .i64 ((Y7 l0_1 x8_1).f4.f0), .int .i64 ((Y7 l0_1 x8_1).f4.f1), .int .i64 ((Y7 l0_1 x8_1).f4.f2), .int .i64 ((Y7 l0_1 x8_1).f4.f3), .int .i64 ((Y7 l0_1 x8_1).f4.f4), .int .i64 ((Y7 l0_1 x8_1).f4.f5), .int .i64 ((Y7 l0_1 x8_1).f4.f6)] (fun k_ => some k_ ≠ (.slice Ao31 x7_1.length co31 : Value).ownBlock) (fun _ => False) rfl rfl ?aP (fun _ hk => hk.elim) ?aF ?aO ?aB ?aS ?aL ?_; (case aP => exact Y1z _ _ _ (⟨(⟨(Y7 l0_1 x8_1).f0.f0, (Y7 l0_1 x8_1).f0.f1⟩ : S26), (Y7 l0_1 x8_1).f1, (⟨(Y7 l0_1 x8_1).f2.f0, (Y7 l0_1 x8_1).f2.f1⟩ : S26), (Y7 l0_1 x8_1).f3, (⟨(Y7 l0_1 x8_1).f4.f0, (Y7 l0_1 x8_1).f4.f1, (Y7 l0_1 x8_1).f4.f2, (Y7 l0_1 x8_1).f4.f3, (Y7 l0_1 x8_1).f4.f4, (Y7 l0_1 x8_1).f4.f5, (Y7 l0_1 x8_1).f4.f6⟩ : S28)⟩ : S30)); (case aB => exact (hU HB.out)); (case aF => exact (fun k_ hk => Kd.fresh' (Kd.R_lt (Kd.rU HO_7.out)) k_ hk)); (case aO => exact (Kd.rU O_2.out)); (case aS => exact (Yi (hU HB.out))); (case aL => have := LMc26.out; omega); intro v_2 w35 ho hb hg hat; rw [← Ny751.out] at ho; have n0_ := Y0.mk (Kd.R_after (ok := (fun _ => True)) (Kd.rU HO_7.out) hg hat); have n1_ := Y0.mk (Y1e (bU B_1.out) hg (Kd.R_ne O_2.out B_1.out (by decide))); have n2_ := Y0.mk (hb); have n3_ := Y0.mk ((show Kd.C k30 w35 Ao31 y743.length y743 from by rw [Ny743.out]; exact Kd.C_take (m := ((ji22) : Int).toNat) ((Kd.R_reads' (Kd.R_after (ok := (fun _ => True)) (Kd.rU HO_7.out) hg hat)).2.2) KL32.out)); have n4_ := Y0.mk (ho); clear HO_7; clear B_1; clear HB; clear HR746; clear O_2; have HO_7 := n0_; have B_1 := n1_; have HB := n2_; have HR746 := n3_; have O_1 := n4_; clear n0_ n1_ n2_ n3_ n4_; clear ho hb hg hat; have q36 : ((ji22) : Int) ≤ ((x7_1.length : Int) : Int) := of_decide_eq_true (by first | (with_reducible assumption) | assumption); obtain ⟨i036, hi036, _, hsz36, _⟩ := info_parts Y1t; have hroom36 : x7_1.length ≤ co31 := (Kd.R_reads' HO_7.out).2.1; have hC36 : Kd.C k30 _ Ao31 x7_1.length x7_1 := (Kd.R_reads' HO_7.out).2.2; have q036 : (0 : Int) ≤ ((ji22) : Int) := of_decide_eq_true (by first | (with_reducible assumption) | assumption); have hcut36 := Y3p (P := Try.prog) 22 30 .i64 Try.underlying22 hi036 13 hsz36 Ao31 x7_1.length co31 (ji22) q036 q36; have hr36 := Kd.C_drop (m := ((ji22) : Int).toNat) (c := co31) hC36 (by omega) hroom36; obtain ⟨A36, hA36⟩ : ∃ A1, A1 = (if co31 = ((ji22) : Int).toNat then Ao31 else (Ao31 : Option Addr).map (·.add (((ji22) : Int).toNat * 13))) := ⟨_, rfl⟩; obtain ⟨c36, hc36⟩ : ∃ c1, c1 = co31 - ((ji22) : Int).toNat := ⟨_, rfl⟩; have hy36 : y754.length = x7_1.length - ((ji22) : Int).toNat := (by rw [Ny754.out, List.length_drop] <;> omega); rw [show (x7_1).drop ((ji22) : Int).toNat = y754 from Ny754.out.symm] at hr36; replace hr36 : Kd.C k30 _ A36 y754.length y754 := (by rw [hA36]; exact hr36); rw [← hy36, ← hA36, ← hc36] at hcut36; have HR757 := Y0.mk hr36; have HC757 := Y0.mk (show y754.length ≤ c36 from by rw [hy36, hc36]; exact Nat.sub_le_sub_right hroom36 _); clear hr36 hC36 hroom36 hi036 hsz36 hc36; have KY36 := Y0.mk hy36; have KA36 := Y0.mk hA36; clear hy36 hA36; have KL36 := Y0.mk (show ((ji22) : Int).toNat ≤ x7_1.length from by omega); replace q36 := eq_true q36) | ((with_reducible refine YW (b := .append) (xs := #[.tmp 59, .tmp 62]) rfl ?_); at_builtin; refine Kd.R_append_rows k30 (w0 := w) w.heap.size rfl (.tmp 59) (.tmp 62) 22 30 (.agg #[(.int .i64 0), (.int .i64 0), (.int .i64 0), (.int .i64 0), (.int .i64 0), (.bool false), (.int .i64 0), (.int .i64 0), (.int .i64 0), (.int .i64 0), (.int .i64 0), (.int .i64 0), (.int .i64 0)]) 104 rfl Try.underlying22 Y1t rfl (by decide) (by omega) v_2 y751 y754 _ _ _ (fun k_ => some k_ ≠ (.slice Ao31 x7_1.length co31 : Value).ownBlock) (fun _ => False) rfl rfl ?aO ?aR (fun _ _ h => h) (fun _ h => h.elim) ?aF ?aB ?aS ?aL ?_; (case aR => repeat (first | exact (by repeat (first | (with_reducible exact HR757.out) | (with_reducible refine Kd.C_alloc ?_ _) | (with_reducible refine Kd.C_drewN ?_ _) | (with_reducible refine Kd.C_drew ?_) | exact HR757.out)) | (with_reducible refine Kd.C_alloc ?_ _) | (with_reducible refine Kd.C_drewN ?_ _) | (with_reducible refine Kd.C_drew ?_))); (case aB => exact (hU HB.out)); (case aF => exact (fun k_ hk => Kd.fresh' (Kd.R_lt (Kd.rU HO_7.out)) k_ hk)); (case aO => exact (Kd.rU O_1.out)); (case aS => exact (Yi (hU HB.out))); (case aL => have := LMc29.out; omega); intro v_5 w37 ho hb hg hat; rw [← Ny758.out] at ho; have n0_ := Y0.mk (Kd.R_after (ok := (fun _ => True)) (Kd.rU HO_7.out) hg hat); have n1_ := Y0.mk (Y1e (bU B_1.out) hg (Kd.R_ne O_1.out B_1.out (by decide))); have n2_ := Y0.mk (hb); have n3_ := Y0.mk ((show Kd.C k30 w37 Ao31 y743.length y743 from by rw [Ny743.out]; exact Kd.C_take (m := ((ji22) : Int).toNat) ((Kd.R_reads' (Kd.R_after (ok := (fun _ => True)) (Kd.rU HO_7.out) hg hat)).2.2) KL32.out)); have n4_ := Y0.mk ((show Kd.C k30 w37 A36 y754.length y754 from by rw [Ny754.out, KA36.out]; exact Kd.C_drop (m := ((ji22) : Int).toNat) (c := co31) ((Kd.R_reads' (Kd.R_after (ok := (fun _ => True)) (Kd.rU HO_7.out) hg hat)).2.2) KL36.out ((Kd.R_reads' (Kd.R_after (ok := (fun _ => True)) (Kd.rU HO_7.out) hg hat)).2.1))); have n5_ := Y0.mk (ho); clear HO_7; clear B_1; clear HB; clear HR746; clear HR757; clear O_1; have HO_7 := n0_; have B_1 := n1_; have HB := n2_; have HR746 := n3_; have HR757 := n4_; have O_5 := n5_; clear n0_ n1_ n2_ n3_ n4_ n5_; clear ho hb hg hat))
       go_roundg k1
       case measure => have := HK1.out; omega
       case rel => exact ⟨(y758), (wrap64 (x8_1 + 1)), reS, H', ⟨by have := HK1.out; omega⟩, ⟨by (with_reducible repeat (first | apply Kd.R_alloc | apply Kd.R_drewN | apply Kd.R_drew)); exact Kd.R_mono O_5.out (fun _ hk => trivial)⟩, ⟨kB B_1⟩, ⟨hU HB.out⟩⟩
      ·rw [if_neg c19] at H
       have c19b0 := decide_eq_false c19
       clear c19
       obtain ⟨c38, H⟩ := iS H
       have c38b0 := eq_true c38
       have c38b1 := decide_eq_true c38
       clear c38
       obtain ⟨y761, hy761⟩ : ∃ y_ : List (S30), y_ = (x7_1.take 0) := ⟨_, rfl⟩
       replace H : (if ([] : List (S30)).length + y761.length < 1353245080339 then ((some (([] : List (S30)) ++ y761 : List (S30))).bind fun y765 => (if 0 ≤ x8_1 then (if y765.length < 1353245080339 then ((some (y765 ++ [(⟨(⟨(Y7 l0_1 x8_1).f0.f0, (Y7 l0_1 x8_1).f0.f1⟩ : S26), (Y7 l0_1 x8_1).f1, (⟨(Y7 l0_1 x8_1).f2.f0, (Y7 l0_1 x8_1).f2.f1⟩ : S26), (Y7 l0_1 x8_1).f3, (⟨(Y7 l0_1 x8_1).f4.f0, (Y7 l0_1 x8_1).f4.f1, (Y7 l0_1 x8_1).f4.f2, (Y7 l0_1 x8_1).f4.f3, (Y7 l0_1 x8_1).f4.f4, (Y7 l0_1 x8_1).f4.f5, (Y7 l0_1 x8_1).f4.f6⟩ : S28)⟩ : S30)] : List (S30))).bind fun y769 => ((some (x7_1.drop 0 : List (S30))).bind fun y772 => (if y769.length + y772.length < 1353245080339 then (Y4.l0 k1 a1 l2 (y769 ++ y772) (wrap64 (x8_1 + 1)) a0_0 l0_1) else (none)))) else (none)) else (none))) else (none)) = some r := by first | (rw [hy761]; with_reducible exact H) | (have H2_ := (Option.bind_some _ _).symm.trans H; rw [hy761]; with_reducible exact H2_) | (have H2_ := (Option.bind_some _ _).symm.trans H; with_reducible exact H2_) | with_reducible exact H | (rw [hy761]; exact H) | exact H
       have Ny761 := Y0.mk hy761
       clear hy761
       obtain ⟨c39, H⟩ := iS H
       have LMc39 := Y0.mk c39
       clear c39
       obtain ⟨y765, hy765⟩ : ∃ y_ : List (S30), y_ = (([] : List (S30)) ++ y761) := ⟨_, rfl⟩
       replace H : (if 0 ≤ x8_1 then (if y765.length < 1353245080339 then ((some (y765 ++ [(⟨(⟨(Y7 l0_1 x8_1).f0.f0, (Y7 l0_1 x8_1).f0.f1⟩ : S26), (Y7 l0_1 x8_1).f1, (⟨(Y7 l0_1 x8_1).f2.f0, (Y7 l0_1 x8_1).f2.f1⟩ : S26), (Y7 l0_1 x8_1).f3, (⟨(Y7 l0_1 x8_1).f4.f0, (Y7 l0_1 x8_1).f4.f1, (Y7 l0_1 x8_1).f4.f2, (Y7 l0_1 x8_1).f4.f3, (Y7 l0_1 x8_1).f4.f4, (Y7 l0_1 x8_1).f4.f5, (Y7 l0_1 x8_1).f4.f6⟩ : S28)⟩ : S30)] : List (S30))).bind fun y769 => ((some (x7_1.drop 0 : List (S30))).bind fun y772 => (if y769.length + y772.length < 1353245080339 then (Y4.l0 k1 a1 l2 (y769 ++ y772) (wrap64 (x8_1 + 1)) a0_0 l0_1) else (none)))) else (none)) else (none)) = some r := by first | (rw [hy765]; with_reducible exact H) | (have H2_ := (Option.bind_some _ _).symm.trans H; rw [hy765]; with_reducible exact H2_) | (have H2_ := (Option.bind_some _ _).symm.trans H; with_reducible exact H2_) | with_reducible exact H | (rw [hy765]; exact H) | exact H
       have Ny765 := Y0.mk hy765
       clear hy765
       obtain ⟨c40, H⟩ := iS H
       have c40b0 := decide_eq_true c40
       clear c40
       obtain ⟨c41, H⟩ := iS H
       have LMc41 := Y0.mk c41
       clear c41
       obtain ⟨y769, hy769⟩ : ∃ y_ : List (S30), y_ = (y765 ++ [(⟨(⟨(Y7 l0_1 x8_1).f0.f0, (Y7 l0_1 x8_1).f0.f1⟩ : S26), (Y7 l0_1 x8_1).f1, (⟨(Y7 l0_1 x8_1).f2.f0, (Y7 l0_1 x8_1).f2.f1⟩ : S26), (Y7 l0_1 x8_1).f3, (⟨(Y7 l0_1 x8_1).f4.f0, (Y7 l0_1 x8_1).f4.f1, (Y7 l0_1 x8_1).f4.f2, (Y7 l0_1 x8_1).f4.f3, (Y7 l0_1 x8_1).f4.f4, (Y7 l0_1 x8_1).f4.f5, (Y7 l0_1 x8_1).f4.f6⟩ : S28)⟩ : S30)]) := ⟨_, rfl⟩
       replace H : ((some (x7_1.drop 0 : List (S30))).bind fun y772 => (if y769.length + y772.length < 1353245080339 then (Y4.l0 k1 a1 l2 (y769 ++ y772) (wrap64 (x8_1 + 1)) a0_0 l0_1) else (none))) = some r := by first | (rw [hy769]; with_reducible exact H) | (have H2_ := (Option.bind_some _ _).symm.trans H; rw [hy769]; with_reducible exact H2_) | (have H2_ := (Option.bind_some _ _).symm.trans H; with_reducible exact H2_) | with_reducible exact H | (rw [hy769]; exact H) | exact H
       have Ny769 := Y0.mk hy769
       clear hy769
       have c42b0 := eq_true (of_decide_eq_true (by first | (with_reducible assumption) | assumption) : 0 ≤ (x7_1.length : Int))
       obtain ⟨y772, hy772⟩ : ∃ y_ : List (S30), y_ = (x7_1.drop 0) := ⟨_, rfl⟩
       replace H : (if y769.length + y772.length < 1353245080339 then (Y4.l0 k1 a1 l2 (y769 ++ y772) (wrap64 (x8_1 + 1)) a0_0 l0_1) else (none)) = some r := by first | (rw [hy772]; with_reducible exact H) | (have H2_ := (Option.bind_some _ _).symm.trans H; rw [hy772]; with_reducible exact H2_) | (have H2_ := (Option.bind_some _ _).symm.trans H; with_reducible exact H2_) | with_reducible exact H | (rw [hy772]; exact H) | exact H
       have Ny772 := Y0.mk hy772
       clear hy772
       obtain ⟨c43, H⟩ := iS H
       have LMc43 := Y0.mk c43
       clear c43
       obtain ⟨y776, hy776⟩ : ∃ y_ : List (S30), y_ = (y769 ++ y772) := ⟨_, rfl⟩
       replace H : (Y4.l0 k1 a1 l2 y776 (wrap64 (x8_1 + 1)) a0_0 l0_1) = some r := by first | (rw [hy776]; with_reducible exact H) | (have H2_ := (Option.bind_some _ _).symm.trans H; rw [hy776]; with_reducible exact H2_) | (have H2_ := (Option.bind_some _ _).symm.trans H; with_reducible exact H2_) | with_reducible exact H | (rw [hy776]; exact H) | exact H
       have Ny776 := Y0.mk hy776
       clear hy776
       have H' := Y0.mk H
       clear H
       have z_7 := Y1 B_1.out
       have f_b := Y6 B_1.out
       obtain ⟨Ao46, co46, eo46⟩ := Kd.R_slice HO_7.out
       subst eo46
       have q45 : (0 : Int) ≤ ((x7_1.length : Int) : Int) := of_decide_eq_true (by first | (with_reducible assumption) | assumption)
       obtain ⟨i045, hi045, _, hsz45, _⟩ := info_parts Y1t
       have hroom45 : x7_1.length ≤ co46 := (Kd.R_reads' HO_7.out).2.1
       have hC45 : Kd.C k30 _ Ao46 x7_1.length x7_1 := (Kd.R_reads' HO_7.out).2.2
       have hcut45 := Y3V (P := Try.prog) 22 30 .i64 Try.underlying22 hi045 Ao46 x7_1.length co46 0 (by omega) q45 hroom45
       have hr45 := Kd.C_take (m := 0) hC45 (by omega)
       have hy45 : y761.length = (0 : Int).toNat := (by rw [Ny761.out, List.length_take]; omega)
       rw [← Ny761.out] at hr45
       rw [← hy45] at hcut45
       have HR764 := Y0.mk hr45
       have HC764 := Y0.mk (show y761.length ≤ co46 from by omega)
       clear hr45 hC45 hroom45 hi045 hsz45
       have KY45 := Y0.mk hy45
       clear hy45
       have KL45 := Y0.mk (show 0 ≤ x7_1.length from by omega)
       replace q45 := eq_true q45
       go_wp2_with (first | ((with_reducible refine YW (b := .append) (xs := #[.tmp 46, .tmp 49]) rfl ?_); at_builtin; refine Kd.R_append_rows k30 (w0 := w) w.heap.size rfl (.tmp 46) (.tmp 49) 22 30 (.agg #[(.int .i64 0), (.int .i64 0), (.int .i64 0), (.int .i64 0), (.int .i64 0), (.bool false), (.int .i64 0), (.int .i64 0), (.int .i64 0), (.int .i64 0), (.int .i64 0), (.int .i64 0), (.int .i64 0)]) 104 rfl Try.underlying22 Y1t rfl (by decide) (by omega) (.slice none 0 0) ([] : List (S30)) y761 _ _ _ (fun k_ => some k_ ≠ (.slice Ao46 x7_1.length co46 : Value).ownBlock) (fun _ => False) rfl rfl ?aO ?aR (fun _ _ h => h) (fun _ h => h.elim) ?aF ?aB ?aS ?aL ?_; (case aR => repeat (first | exact (by repeat (first | (with_reducible exact HR764.out) | (with_reducible refine Kd.C_alloc ?_ _) | (with_reducible refine Kd.C_drewN ?_ _) | (with_reducible refine Kd.C_drew ?_) | exact HR764.out)) | (with_reducible refine Kd.C_alloc ?_ _) | (with_reducible refine Kd.C_drewN ?_ _) | (with_reducible refine Kd.C_drew ?_))); (case aB => exact (hU HB.out)); (case aF => exact (fun k_ hk => Kd.fresh' (Kd.R_lt (Kd.rU HO_7.out)) k_ hk)); (case aO => exact ((Kd.R_nil _ _ _ _ (fun k_ => some k_ ≠ (.slice Ao46 x7_1.length co46 : Value).ownBlock)))); (case aS => exact (Yi (hU HB.out))); (case aL => have := LMc39.out; omega); intro v_4 w47 ho hb hg hat; rw [← Ny765.out] at ho; have n0_ := Y0.mk (Kd.R_after (Kd.R_apart_nil (Kd.rU HO_7.out)) hg hat); have n1_ := Y0.mk (Y1e (bU B_1.out) hg (by simp [Value.ownBlock])); have n2_ := Y0.mk (hb); have n3_ := Y0.mk ((show Kd.C k30 w47 Ao46 y761.length y761 from by rw [Ny761.out]; exact Kd.C_take (m := 0) ((Kd.R_reads' (Kd.R_after (Kd.R_apart_nil (Kd.rU HO_7.out)) hg hat)).2.2) KL45.out)); have n4_ := Y0.mk (ho); clear HO_7; clear B_1; clear HB; clear HR764; have HO_7 := n0_; have B_1 := n1_; have HB := n2_; have HR764 := n3_; have O_4 := n4_; clear n0_ n1_ n2_ n3_ n4_; clear ho hb hg hat; have z_5 := Y1 B_1.out; have f_4 := Y6 B_1.out; have p768 : 0 ≤ (x8_1 : Int) := of_decide_eq_true (by first | (with_reducible assumption) | assumption); have q768 : x8_1 < (l0_1.length : Int) := of_decide_eq_true (by first | (with_reducible assumption) | assumption); obtain ⟨d_3, e768, m_p, m_s, m_z, m_12, m_e, m_i, m_r, m_u, m_13, m_n, m_w, m_v, m_x⟩ := Y1i HR0_1.out x8_1 p768 q768; cases e768; replace m_p := hbC HB m_p; replace m_s := hbC HB m_s; replace m_z := hbC HB m_z; replace m_12 := hbC HB m_12; replace m_e := hbC HB m_e; replace m_i := hbC HB m_i; replace m_r := hbC HB m_r; replace m_u := hbC HB m_u; replace m_13 := hbC HB m_13; replace m_n := hbC HB m_n; replace m_w := hbC HB m_w; replace m_v := hbC HB m_v; replace m_x := hbC HB m_x; replace p768 := eq_true p768; replace q768 := eq_true q768) | ((with_reducible refine YW (b := .append) (xs := #[.tmp 51, .tmp 57]) rfl ?_); at_builtin; refine Kd.R_append k30 (w0 := w) w.heap.size rfl (.tmp 51) (.tmp 57) 22 30 (.agg #[(.int .i64 0), (.int .i64 0), (.int .i64 0), (.int .i64 0), (.int .i64 0), (.bool false), (.int .i64 0), (.int .i64 0), (.int .i64 0), (.int .i64 0), (.int .i64 0), (.int .i64 0), (.int .i64 0)]) 104 rfl Try.underlying22 Y1t rfl (by decide) (by omega) v_4 y765 (⟨(⟨(Y7 l0_1 x8_1).f0.f0, (Y7 l0_1 x8_1).f0.f1⟩ : S26), (Y7 l0_1 x8_1).f1, (⟨(Y7 l0_1 x8_1).f2.f0, (Y7 l0_1 x8_1).f2.f1⟩ : S26), (Y7 l0_1 x8_1).f3, (⟨(Y7 l0_1 x8_1).f4.f0, (Y7 l0_1 x8_1).f4.f1, (Y7 l0_1 x8_1).f4.f2, (Y7 l0_1 x8_1).f4.f3, (Y7 l0_1 x8_1).f4.f4, (Y7 l0_1 x8_1).f4.f5, (Y7 l0_1 x8_1).f4.f6⟩ : S28)⟩ : S30) [.int .i64 ((Y7 l0_1 x8_1).f0.f0), .int .i64 ((Y7 l0_1 x8_1).f0.f1), .int .i64 ((Y7 l0_1 x8_1).f1), .int .i64 ((Y7 l0_1 x8_1).f2.f0), .int .i64 ((Y7 l0_1 x8_1).f2.f1), .bool ((Y7 l0_1 x8_1).f3), .int .i64 ((Y7 l0_1 x8_1).f4.f0), .int .i64 ((Y7 l0_1 x8_1).f4.f1), .int .i64 ((Y7 l0_1 x8_1).f4.f2), .int .i64 ((Y7 l0_1 x8_1).f4.f3), .int .i64 ((Y7 l0_1 x8_1).f4.f4), .int .i64 ((Y7 l0_1 x8_1).f4.f5), .int .i64 ((Y7 l0_1 x8_1).f4.f6)] (fun k_ => some k_ ≠ (.slice Ao46 x7_1.length co46 : Value).ownBlock) (fun _ => False) rfl rfl ?aP (fun _ hk => hk.elim) ?aF ?aO ?aB ?aS ?aL ?_; (case aP => exact Y1z _ _ _ (⟨(⟨(Y7 l0_1 x8_1).f0.f0, (Y7 l0_1 x8_1).f0.f1⟩ : S26), (Y7 l0_1 x8_1).f1, (⟨(Y7 l0_1 x8_1).f2.f0, (Y7 l0_1 x8_1).f2.f1⟩ : S26), (Y7 l0_1 x8_1).f3, (⟨(Y7 l0_1 x8_1).f4.f0, (Y7 l0_1 x8_1).f4.f1, (Y7 l0_1 x8_1).f4.f2, (Y7 l0_1 x8_1).f4.f3, (Y7 l0_1 x8_1).f4.f4, (Y7 l0_1 x8_1).f4.f5, (Y7 l0_1 x8_1).f4.f6⟩ : S28)⟩ : S30)); (case aB => exact (hU HB.out)); (case aF => exact (fun k_ hk => Kd.fresh' (Kd.R_lt (Kd.rU HO_7.out)) k_ hk)); (case aO => exact (Kd.rU O_4.out)); (case aS => exact (Yi (hU HB.out))); (case aL => have := LMc41.out; omega); intro v_3 w49 ho hb hg hat; rw [← Ny769.out] at ho; have n0_ := Y0.mk (Kd.R_after (ok := (fun _ => True)) (Kd.rU HO_7.out) hg hat); have n1_ := Y0.mk (Y1e (bU B_1.out) hg (Kd.R_ne O_4.out B_1.out (by decide))); have n2_ := Y0.mk (hb); have n3_ := Y0.mk ((show Kd.C k30 w49 Ao46 y761.length y761 from by rw [Ny761.out]; exact Kd.C_take (m := 0) ((Kd.R_reads' (Kd.R_after (ok := (fun _ => True)) (Kd.rU HO_7.out) hg hat)).2.2) KL45.out)); have n4_ := Y0.mk (ho); clear HO_7; clear B_1; clear HB; clear HR764; clear O_4; have HO_7 := n0_; have B_1 := n1_; have HB := n2_; have HR764 := n3_; have O_3 := n4_; clear n0_ n1_ n2_ n3_ n4_; clear ho hb hg hat; have q50 : (0 : Int) ≤ ((x7_1.length : Int) : Int) := of_decide_eq_true (by first | (with_reducible assumption) | assumption); obtain ⟨i050, hi050, _, hsz50, _⟩ := info_parts Y1t; have hroom50 : x7_1.length ≤ co46 := (Kd.R_reads' HO_7.out).2.1; have hC50 : Kd.C k30 _ Ao46 x7_1.length x7_1 := (Kd.R_reads' HO_7.out).2.2; have hcut50 := Y3p (P := Try.prog) 22 30 .i64 Try.underlying22 hi050 13 hsz50 Ao46 x7_1.length co46 0 (by omega) q50; have hr50 := Kd.C_drop (m := (0 : Int).toNat) (c := co46) hC50 (by omega) hroom50; obtain ⟨A50, hA50⟩ : ∃ A1, A1 = (if co46 = (0 : Int).toNat then Ao46 else (Ao46 : Option Addr).map (·.add ((0 : Int).toNat * 13))) := ⟨_, rfl⟩; obtain ⟨c50, hc50⟩ : ∃ c1, c1 = co46 - (0 : Int).toNat := ⟨_, rfl⟩; have hy50 : y772.length = x7_1.length - (0 : Int).toNat := (by rw [Ny772.out, List.length_drop] <;> omega); rw [show (x7_1).drop (0 : Int).toNat = y772 from Ny772.out.symm] at hr50; replace hr50 : Kd.C k30 _ A50 y772.length y772 := (by rw [hA50]; exact hr50); rw [← hy50, ← hA50, ← hc50] at hcut50; have HR775 := Y0.mk hr50; have HC775 := Y0.mk (show y772.length ≤ c50 from by rw [hy50, hc50]; exact Nat.sub_le_sub_right hroom50 _); clear hr50 hC50 hroom50 hi050 hsz50 hc50; have KY50 := Y0.mk hy50; have KA50 := Y0.mk hA50; clear hy50 hA50; have KL50 := Y0.mk (show 0 ≤ x7_1.length from by omega); replace q50 := eq_true q50) | ((with_reducible refine YW (b := .append) (xs := #[.tmp 59, .tmp 62]) rfl ?_); at_builtin; refine Kd.R_append_rows k30 (w0 := w) w.heap.size rfl (.tmp 59) (.tmp 62) 22 30 (.agg #[(.int .i64 0), (.int .i64 0), (.int .i64 0), (.int .i64 0), (.int .i64 0), (.bool false), (.int .i64 0), (.int .i64 0), (.int .i64 0), (.int .i64 0), (.int .i64 0), (.int .i64 0), (.int .i64 0)]) 104 rfl Try.underlying22 Y1t rfl (by decide) (by omega) v_3 y769 y772 _ _ _ (fun k_ => some k_ ≠ (.slice Ao46 x7_1.length co46 : Value).ownBlock) (fun _ => False) rfl rfl ?aO ?aR (fun _ _ h => h) (fun _ h => h.elim) ?aF ?aB ?aS ?aL ?_; (case aR => repeat (first | exact (by repeat (first | (with_reducible exact HR775.out) | (with_reducible refine Kd.C_alloc ?_ _) | (with_reducible refine Kd.C_drewN ?_ _) | (with_reducible refine Kd.C_drew ?_) | exact HR775.out)) | (with_reducible refine Kd.C_alloc ?_ _) | (with_reducible refine Kd.C_drewN ?_ _) | (with_reducible refine Kd.C_drew ?_))); (case aB => exact (hU HB.out)); (case aF => exact (fun k_ hk => Kd.fresh' (Kd.R_lt (Kd.rU HO_7.out)) k_ hk)); (case aO => exact (Kd.rU O_3.out)); (case aS => exact (Yi (hU HB.out))); (case aL => have := LMc43.out; omega); intro v_6 w51 ho hb hg hat; rw [← Ny776.out] at ho; have n0_ := Y0.mk (Kd.R_after (ok := (fun _ => True)) (Kd.rU HO_7.out) hg hat); have n1_ := Y0.mk (Y1e (bU B_1.out) hg (Kd.R_ne O_3.out B_1.out (by decide))); have n2_ := Y0.mk (hb); have n3_ := Y0.mk ((show Kd.C k30 w51 Ao46 y761.length y761 from by rw [Ny761.out]; exact Kd.C_take (m := 0) ((Kd.R_reads' (Kd.R_after (ok := (fun _ => True)) (Kd.rU HO_7.out) hg hat)).2.2) KL45.out)); have n4_ := Y0.mk ((show Kd.C k30 w51 A50 y772.length y772 from by rw [Ny772.out, KA50.out]; exact Kd.C_drop (m := 0) (c := co46) ((Kd.R_reads' (Kd.R_after (ok := (fun _ => True)) (Kd.rU HO_7.out) hg hat)).2.2) KL50.out ((Kd.R_reads' (Kd.R_after (ok := (fun _ => True)) (Kd.rU HO_7.out) hg hat)).2.1))); have n5_ := Y0.mk (ho); clear HO_7; clear B_1; clear HB; clear HR764; clear HR775; clear O_3; have HO_7 := n0_; have B_1 := n1_; have HB := n2_; have HR764 := n3_; have HR775 := n4_; have O_6 := n5_; clear n0_ n1_ n2_ n3_ n4_ n5_; clear ho hb hg hat))
       go_roundg k1
       case measure => have := HK1.out; omega
       case rel => exact ⟨(y776), (wrap64 (x8_1 + 1)), reS, H', ⟨by have := HK1.out; omega⟩, ⟨by (with_reducible repeat (first | apply Kd.R_alloc | apply Kd.R_drewN | apply Kd.R_drew)); exact Kd.R_mono O_6.out (fun _ hk => trivial)⟩, ⟨kB B_1⟩, ⟨hU HB.out⟩⟩
     ·rw [if_neg c18] at H
      have c18b0 := decide_eq_false c18
      clear c18
      have H' := Y0.mk H
      clear H
      have z_a := Y1 B_1.out
      have f_3 := Y6 B_1.out
      go_wp2_with (first | ((with_reducible refine Yf (N := 11) rfl ?_); refine Yn ?hg (N := 11) ?hd (cs := #[.int .i64 0, .slice none 0 0]) (t := 24) ?hr ?_; (case hd => rfl); (case hg => rfl); (case hr => first | (go_simp; done) | (go_simp; rfl)); intro g_1 hg w53 hbox hb; have n0_ := Y0.mk (Kd.R_below (Kd.rU HO_7.out) hb); have n1_ := Y0.mk (Y3 (bU B_1.out) hb); have n2_ := Y0.mk (Y5 (hU HB.out) hb); have n3_ := Y0.mk (hbox); have n4_ := gE hg HB; have n5_ := gE hg HB; have n6_ := gL hg B_1; have n7_ := gG hg B_1; clear HO_7; clear B_1; clear HB; have HO_7 := n0_; have B_1 := n1_; have HB := n2_; have B_2 := n3_; have W_2 := n4_; have G_2 := n5_; have N_4 := n6_; have N_5 := n7_; clear n0_ n1_ n2_ n3_ n4_ n5_ n6_ n7_; clear hb hbox hg; have hnb54 := N_5.out; have hnc54 := N_4.out; have z_6 := Y1 B_2.out; have f_7 := Y6 B_2.out))
      go_loopg [12] k1 (fun kq v12 w' => ∃ (x12_2 : Int) (x780000_2 : Int) (x780001_2 : List (S30)) (u780001 : Value), v12 = .int .i64 x12_2 ∧ Y0 (Y4.l1 kq x7_1 x12_2 a0_0 l0_1 x780000_2 x780001_2 = some r) ∧ Y0 (kq ≤ k1) ∧ Y0 (Kd.R k30 30 w' w.heap.size (fun k_ => some k_ ≠ (u780001 : Value).ownBlock) u7 x7_1) ∧ Y0 (Kd.R k30 30 w' w.heap.size (fun k_ => some k_ ≠ (u7 : Value).ownBlock) u780001 x780001_2) ∧ Y0 (w'.heap[g_2]? = some (.cells #[.int .i64 a0_0, (.slice A0_1 l0_1.length c0_1)] 24 (0, 0))) ∧ Y0 (w'.heap[g_1]? = some (.cells #[.int .i64 x780000_2, u780001] 24 (0, 0))) ∧ Y0 (Below w.heap.size w w'))
      case atStart => exact ⟨(0), (wrap64 (1 + (Int.tmod (wrap64 (a1)) 64))), (([] : List (S30))), (.slice none 0 0), reS, H', ⟨Nat.le_refl _⟩, ⟨by (with_reducible repeat (first | apply Kd.R_alloc | apply Kd.R_drewN | apply Kd.R_drew)); exact Kd.R_mono (Kd.R_far (p := ⟨g_1, 1, none⟩) (Kd.R_far (p := ⟨g_1, 0, none⟩) (Kd.R_types HO_7.out B_2.out (by decide)) (fun _ hk => hk.2) (.int .i64 (wrap64 (1 + (Int.tmod (wrap64 (a1)) 64))))) (fun _ hk => hk.2) (.slice none 0 0)) (fun _ hk => (by simp [Value.ownBlock]))⟩, ⟨by first | exact Kd.R_nil _ _ _ _ _ | exact Kd.N_nil _ _ _ _ _ | exact Kd.V_nil _ _ _ _ _ | exact Kd.Q_nil _ _ _ _ _ | exact Kd.S_nil _ _ _ _ _⟩, ⟨by (with_reducible repeat (first | refine Yb ?_ _ | refine Ya ?_ | refine Y9 ?_ _)); refine (Below.heap_setCell _ ⟨_, _, none⟩ _ _ N_4.out).trans ?_; (with_reducible repeat (first | refine Yb ?_ _ | refine Ya ?_ | refine Y9 ?_ _)); refine (Below.heap_setCell _ ⟨_, _, none⟩ _ _ N_4.out).trans ?_; (with_reducible repeat (first | refine Yb ?_ _ | refine Ya ?_ | refine Y9 ?_ _)); exact B_1.out⟩, ⟨by (with_reducible repeat (first | refine Yb ?_ _ | refine Ya ?_ | refine Y9 ?_ _)); refine Ys (cs := #[.int .i64 (wrap64 (1 + (Int.tmod (wrap64 (a1)) 64))), .slice none 0 0]) ?_ 1 _ rfl; (with_reducible repeat (first | refine Yb ?_ _ | refine Ya ?_ | refine Y9 ?_ _)); refine Ys (cs := #[.int .i64 0, .slice none 0 0]) ?_ 0 _ rfl; (with_reducible repeat (first | refine Yb ?_ _ | refine Ya ?_ | refine Y9 ?_ _)); exact B_2.out⟩, ⟨hU HB.out⟩⟩
      case round =>
       clear H'
       try clear c1
       try clear c2
       try clear p2
       try clear c3
       try clear q3
       try clear c4
       try clear q4
       try clear c5
       try clear q5
       try clear c6
       try clear p6
       try clear p7
       try clear q7
       try clear hx7
       try clear c12
       try clear c12b0
       try clear c12b1
       try clear c18
       try clear c18b0
       try clear c19
       try clear c19b0
       try clear c20
       try clear c20b0
       try clear c21
       try clear c21b0
       try clear c21b1
       try clear c22
       try clear c23
       try clear c23b0
       try clear c23b1
       try clear c24
       try clear c24b0
       try clear c24b1
       try clear c25
       try clear c26
       try clear c27
       try clear c27b0
       try clear c28
       try clear c28b0
       try clear c29
       try clear q32
       try clear c36
       try clear q36
       try clear c38
       try clear c38b0
       try clear c38b1
       try clear c39
       try clear c40
       try clear c40b0
       try clear c41
       try clear c42
       try clear c42b0
       try clear c43
       try clear q45
       try clear c50
       try clear q50
       try clear c54
       try clear z_1
       try clear z_9
       try clear z_0
       try clear z_3
       try clear z_4
       try clear z_e
       try clear z_b
       try clear z_h
       try clear z_7
       try clear z_d
       try clear z_5
       try clear z_g
       try clear z_a
       try clear z_i
       try clear z_6
       try clear z_c
       try clear z_2
       try clear z_8
       try clear f_2
       try clear f_a
       try clear f_0
       try clear f_5
       try clear f_9
       try clear f_f
       try clear f_6
       try clear f_h
       try clear f_b
       try clear f_d
       try clear f_4
       try clear f_g
       try clear f_3
       try clear f_e
       try clear f_7
       try clear f_i
       try clear f_1
       try clear f_8
       try clear m_m
       try clear m_10
       try clear m_q
       try clear m_11
       try clear m_y
       try clear m_h
       try clear m_f
       try clear m_g
       try clear m_o
       try clear m_l
       try clear m_t
       try clear m_k
       try clear m_j
       try clear m_d
       try clear m_p
       try clear m_s
       try clear m_w
       try clear m_v
       try clear m_x
       try clear m_z
       try clear m_12
       try clear m_e
       try clear m_i
       try clear m_r
       try clear m_u
       try clear m_13
       try clear m_n
       try clear p2
       try clear p742
       try clear p750
       try clear p768
       try clear q036
       try clear q32
       try clear q36
       try clear q45
       try clear q50
       try clear q742
       try clear q750
       try clear q768
       obtain ⟨x12_2, x780000_2, x780001_2, u780001, rfl, HA, HK2, HO_7, HO_780001, B_1, B_2, HB⟩ := hrel
       cases gk with
       | zero => exact absurd HA.out (by simp [Y4.l1])
       | succ k2 =>
        have H := HA.out
        clear HA
        simp only [Y4.l1] at H
        by_cases c56 : x12_2 < (l0_1.length : Int)
        ·rw [if_pos c56] at H
         have c56b0 := decide_eq_true c56
         clear c56
         have H' := Y0.mk H
         clear H
         have hnb57 := N_4.out
         have hnc57 := N_5.out
         have z_f := Y1 B_1.out
         have f_c := Y6 B_1.out
         go_wp2
         go_loopg [13] k2 (fun kq v13 w' => ∃ (x13_3 : Int) (x780000_3 : Int) (x780001_3 : List (S30)) (u780001 : Value), v13 = .int .i64 x13_3 ∧ Y0 (Y4.l2 kq x7_1 x12_2 x13_3 a0_0 l0_1 x780000_3 x780001_3 = some r) ∧ Y0 (kq ≤ k2) ∧ Y0 (Kd.R k30 30 w' w.heap.size (fun k_ => some k_ ≠ (u780001 : Value).ownBlock) u7 x7_1) ∧ Y0 (Kd.R k30 30 w' w.heap.size (fun k_ => some k_ ≠ (u7 : Value).ownBlock) u780001 x780001_3) ∧ Y0 (w'.heap[g_2]? = some (.cells #[.int .i64 a0_0, (.slice A0_1 l0_1.length c0_1)] 24 (0, 0))) ∧ Y0 (w'.heap[g_1]? = some (.cells #[.int .i64 x780000_3, u780001] 24 (0, 0))) ∧ Y0 (Below w.heap.size w w'))
         case atStart => exact ⟨(0), (x780000_2), (x780001_2), (u780001), reS, H', ⟨Nat.le_refl _⟩, ⟨by (with_reducible repeat (first | apply Kd.R_alloc | apply Kd.R_drewN | apply Kd.R_drew)); exact HO_7.out⟩, ⟨by (with_reducible repeat (first | apply Kd.R_alloc | apply Kd.R_drewN | apply Kd.R_drew)); exact HO_780001.out⟩, ⟨kB B_1⟩, ⟨kB B_2⟩, ⟨hU HB.out⟩⟩
         case round =>
          clear H'
          try clear c1
          try clear c2
          try clear p2
          try clear c3
          try clear q3
          try clear c4
          try clear q4
          try clear c5
          try clear q5
          try clear c6
          try clear p6
          try clear p7
          try clear q7
          try clear hx7
          try clear c12
          try clear c12b0
          try clear c12b1
          try clear c18
          try clear c18b0
          try clear c19
          try clear c19b0
          try clear c20
          try clear c20b0
          try clear c21
          try clear c21b0
          try clear c21b1
          try clear c22
          try clear c23
          try clear c23b0
          try clear c23b1
          try clear c24
          try clear c24b0
          try clear c24b1
          try clear c25
          try clear c26
          try clear c27
          try clear c27b0
          try clear c28
          try clear c28b0
          try clear c29
          try clear q32
          try clear c36
          try clear q36
          try clear c38
          try clear c38b0
          try clear c38b1
          try clear c39
          try clear c40
          try clear c40b0
          try clear c41
          try clear c42
          try clear c42b0
          try clear c43
          try clear q45
          try clear c50
          try clear q50
          try clear c54
          try clear c56
          try clear c56b0
          try clear c57
          try clear z_1
          try clear z_9
          try clear z_0
          try clear z_3
          try clear z_4
          try clear z_e
          try clear z_b
          try clear z_h
          try clear z_7
          try clear z_d
          try clear z_5
          try clear z_g
          try clear z_a
          try clear z_i
          try clear z_6
          try clear z_c
          try clear z_f
          try clear z_m
          try clear z_2
          try clear z_8
          try clear f_2
          try clear f_a
          try clear f_0
          try clear f_5
          try clear f_9
          try clear f_f
          try clear f_6
          try clear f_h
          try clear f_b
          try clear f_d
          try clear f_4
          try clear f_g
          try clear f_3
          try clear f_e
          try clear f_7
          try clear f_i
          try clear f_c
          try clear f_o
          try clear f_1
          try clear f_8
          try clear m_m
          try clear m_10
          try clear m_q
          try clear m_11
          try clear m_y
          try clear m_h
          try clear m_f
          try clear m_g
          try clear m_o
          try clear m_l
          try clear m_t
          try clear m_k
          try clear m_j
          try clear m_d
          try clear m_p
          try clear m_s
          try clear m_w
          try clear m_v
          try clear m_x
          try clear m_z
          try clear m_12
          try clear m_e
          try clear m_i
          try clear m_r
          try clear m_u
          try clear m_13
          try clear m_n
          try clear p2
          try clear p6
          try clear p7
          try clear p742
          try clear p750
          try clear p768
          try clear q036
          try clear q3
          try clear q32
          try clear q36
          try clear q4
          try clear q45
          try clear q5
          try clear q50
          try clear q7
          try clear q742
          try clear q750
          try clear q768
          obtain ⟨x13_3, x780000_3, x780001_3, u780001, rfl, HA, HK3, HO_7, HO_780001, B_1, B_2, HB⟩ := hrel
          cases gk with
          | zero => exact absurd HA.out (by simp [Y4.l2])
          | succ k3 =>
           have H := HA.out
           clear HA
           simp only [Y4.l2] at H
           by_cases c59 : x13_3 < (x7_1.length : Int)
           ·rw [if_pos c59] at H
            have c59b0 := decide_eq_true c59
            clear c59
            obtain ⟨c60, H⟩ := iS H
            have c60b0 := decide_eq_true c60
            clear c60
            obtain ⟨⟨t_0, t_1, t_2⟩, A610, H⟩ := bS H
            try dsimp only at H
            have A61 := Y0.mk A610
            clear A610
            by_cases c62 : t_2 = 6
            ·rw [if_pos c62] at H
             have c62b0 := bqT c62
             have c62b1 := bnF c62
             clear c62
             have H' := Y0.mk H
             clear H
             obtain ⟨Ao63, co63, eo63⟩ := Kd.R_slice HO_7.out
             subst eo63
             obtain ⟨Ao64, co64, eo64⟩ := Kd.R_slice HO_780001.out
             subst eo64
             try go_wp2
             replace HO_7 := Y0.mk (Kd.R_drew HO_7.out)
             replace HO_780001 := Y0.mk (Kd.R_drew HO_780001.out)
             replace B_1 := Y0.mk (Ya B_1.out)
             replace B_2 := Y0.mk (Ya B_2.out)
             replace HB := Y0.mk (YB HB.out)
             have p780 : 0 ≤ (x13_3 : Int) := of_decide_eq_true (by first | (with_reducible assumption) | assumption)
             have q780 : x13_3 < (x7_1.length : Int) := of_decide_eq_true (by first | (with_reducible assumption) | assumption)
             obtain ⟨d_0, e780, m_1, m_4, m_6, m_5, m_3, m_9, m_b, m_a, m_0, m_2, m_c, m_7, m_8⟩ := Y1i (Kd.R_reads' HO_7.out).2.2 x13_3 p780 q780
             cases e780
             replace p780 := eq_true p780
             replace q780 := eq_true q780
             refine Y19 (n := 12) (S := fun w' => w'.cell? ⟨g_1, 0, none⟩ = some (.int .i64 x780000_3) ∧ w'.cell? ⟨g_1, 1, none⟩ = some (.slice Ao64 x780001_3.length co64) ∧ w'.cell? (d_0.add ((x13_3).toNat * 13)) = some (.int .i64 ((Y7 x7_1 x13_3).f0.f0)) ∧ w'.cell? ⟨(d_0.add ((x13_3).toNat * 13)).block, (d_0.add ((x13_3).toNat * 13)).off + 1, none⟩ = some (.int .i64 ((Y7 x7_1 x13_3).f0.f1)) ∧ w'.cell? ⟨(d_0.add ((x13_3).toNat * 13)).block, (d_0.add ((x13_3).toNat * 13)).off + 2, none⟩ = some (.int .i64 ((Y7 x7_1 x13_3).f1)) ∧ w'.cell? ⟨(d_0.add ((x13_3).toNat * 13)).block, (d_0.add ((x13_3).toNat * 13)).off + 3, none⟩ = some (.int .i64 ((Y7 x7_1 x13_3).f2.f0)) ∧ w'.cell? ⟨(d_0.add ((x13_3).toNat * 13)).block, (d_0.add ((x13_3).toNat * 13)).off + 4, none⟩ = some (.int .i64 ((Y7 x7_1 x13_3).f2.f1)) ∧ w'.cell? ⟨(d_0.add ((x13_3).toNat * 13)).block, (d_0.add ((x13_3).toNat * 13)).off + 5, none⟩ = some (.bool ((Y7 x7_1 x13_3).f3)) ∧ w'.cell? ⟨(d_0.add ((x13_3).toNat * 13)).block, (d_0.add ((x13_3).toNat * 13)).off + 6, none⟩ = some (.int .i64 ((Y7 x7_1 x13_3).f4.f0)) ∧ w'.cell? ⟨(d_0.add ((x13_3).toNat * 13)).block, (d_0.add ((x13_3).toNat * 13)).off + 7, none⟩ = some (.int .i64 ((Y7 x7_1 x13_3).f4.f1)) ∧ w'.cell? ⟨(d_0.add ((x13_3).toNat * 13)).block, (d_0.add ((x13_3).toNat * 13)).off + 8, none⟩ = some (.int .i64 ((Y7 x7_1 x13_3).f4.f2)) ∧ w'.cell? ⟨(d_0.add ((x13_3).toNat * 13)).block, (d_0.add ((x13_3).toNat * 13)).off + 9, none⟩ = some (.int .i64 ((Y7 x7_1 x13_3).f4.f3)) ∧ w'.cell? ⟨(d_0.add ((x13_3).toNat * 13)).block, (d_0.add ((x13_3).toNat * 13)).off + 10, none⟩ = some (.int .i64 ((Y7 x7_1 x13_3).f4.f4)) ∧ w'.cell? ⟨(d_0.add ((x13_3).toNat * 13)).block, (d_0.add ((x13_3).toNat * 13)).off + 11, none⟩ = some (.int .i64 ((Y7 x7_1 x13_3).f4.f5)) ∧ w'.cell? ⟨(d_0.add ((x13_3).toNat * 13)).block, (d_0.add ((x13_3).toNat * 13)).off + 12, none⟩ = some (.int .i64 ((Y7 x7_1 x13_3).f4.f6))) (ds := []) #[false, false, false, false, false, false, false, false, false, false, false, false] (by kernel_rfl) rfl rfl ⟨(Y1 B_2.out 0).trans rfl, (Y1 B_2.out 1).trans rfl, m_1, m_4, m_6, m_5, m_3, m_9, m_b, m_a, m_0, m_2, m_c, m_7, m_8⟩ (fun hHeld => ?_); refine YZ Y4.tab22 Y4.bits22 (fun HT_ HW_ => ?_)
             generalize wr.drew = w65 at HO_7 HO_780001 B_1 B_2 HB m_1 m_4 m_c m_7 m_8 m_6 m_5 m_3 m_9 m_b m_a m_0 m_2 hHeld ⊢
             refine puA 1 85 (bs 12 2) ?_
             refine puA 2 86 (bs 12 6) ?_
             refine puA 3 87 (bs 12 14) ?_
             refine tkA 0 84 (bs 12 15) hHeld ?_
             refine tkA 4 88 (bs 12 31) hHeld ?_
             refine join_ (σ := Value × Nat) 2 #[true, true, true, true, true, true, true, true, true, true, false, false] (fun s_ => [(89, .tuple #[.agg #[.int .i64 t_0, s_.1], .int .i64 t_2]), (14, .pointer (some ⟨s_.2, 0, none⟩)), (83, .tuple #[.agg #[.int .i64 t_0, s_.1], .int .i64 t_2]), (90, .agg #[.int .i64 t_0, s_.1]), (91, .int .i64 t_2)]) (fun s_ w' => (w'.cell? ⟨g_1, 0, none⟩ = some (.int .i64 x780000_3) ∧ w'.cell? ⟨g_1, 1, none⟩ = some (.slice Ao64 x780001_3.length co64) ∧ w'.cell? (d_0.add ((x13_3).toNat * 13)) = some (.int .i64 ((Y7 x7_1 x13_3).f0.f0)) ∧ w'.cell? ⟨(d_0.add ((x13_3).toNat * 13)).block, (d_0.add ((x13_3).toNat * 13)).off + 1, none⟩ = some (.int .i64 ((Y7 x7_1 x13_3).f0.f1)) ∧ w'.cell? ⟨(d_0.add ((x13_3).toNat * 13)).block, (d_0.add ((x13_3).toNat * 13)).off + 2, none⟩ = some (.int .i64 ((Y7 x7_1 x13_3).f1)) ∧ w'.cell? ⟨(d_0.add ((x13_3).toNat * 13)).block, (d_0.add ((x13_3).toNat * 13)).off + 3, none⟩ = some (.int .i64 ((Y7 x7_1 x13_3).f2.f0)) ∧ w'.cell? ⟨(d_0.add ((x13_3).toNat * 13)).block, (d_0.add ((x13_3).toNat * 13)).off + 4, none⟩ = some (.int .i64 ((Y7 x7_1 x13_3).f2.f1)) ∧ w'.cell? ⟨(d_0.add ((x13_3).toNat * 13)).block, (d_0.add ((x13_3).toNat * 13)).off + 5, none⟩ = some (.bool ((Y7 x7_1 x13_3).f3)) ∧ w'.cell? ⟨(d_0.add ((x13_3).toNat * 13)).block, (d_0.add ((x13_3).toNat * 13)).off + 6, none⟩ = some (.int .i64 ((Y7 x7_1 x13_3).f4.f0)) ∧ w'.cell? ⟨(d_0.add ((x13_3).toNat * 13)).block, (d_0.add ((x13_3).toNat * 13)).off + 7, none⟩ = some (.int .i64 ((Y7 x7_1 x13_3).f4.f1)) ∧ w'.cell? ⟨(d_0.add ((x13_3).toNat * 13)).block, (d_0.add ((x13_3).toNat * 13)).off + 8, none⟩ = some (.int .i64 ((Y7 x7_1 x13_3).f4.f2)) ∧ w'.cell? ⟨(d_0.add ((x13_3).toNat * 13)).block, (d_0.add ((x13_3).toNat * 13)).off + 9, none⟩ = some (.int .i64 ((Y7 x7_1 x13_3).f4.f3)) ∧ w'.cell? ⟨(d_0.add ((x13_3).toNat * 13)).block, (d_0.add ((x13_3).toNat * 13)).off + 10, none⟩ = some (.int .i64 ((Y7 x7_1 x13_3).f4.f4)) ∧ w'.cell? ⟨(d_0.add ((x13_3).toNat * 13)).block, (d_0.add ((x13_3).toNat * 13)).off + 11, none⟩ = some (.int .i64 ((Y7 x7_1 x13_3).f4.f5)) ∧ w'.cell? ⟨(d_0.add ((x13_3).toNat * 13)).block, (d_0.add ((x13_3).toNat * 13)).off + 12, none⟩ = some (.int .i64 ((Y7 x7_1 x13_3).f4.f6))) ∧ (Kd.R k30 30 w' w.heap.size (fun k_ => some k_ ≠ (.slice (some d_0) x7_1.length co63 : Value).ownBlock ∧ some k_ ≠ (.slice Ao64 x780001_3.length co64 : Value).ownBlock) s_.1 t_1) ∧ (Kd.R k30 30 w' w.heap.size (fun k_ => some k_ ≠ (s_.1 : Value).ownBlock ∧ some k_ ≠ (.slice Ao64 x780001_3.length co64 : Value).ownBlock) (.slice (some d_0) x7_1.length co63) x7_1) ∧ (Kd.R k30 30 w' w.heap.size (fun k_ => some k_ ≠ (s_.1 : Value).ownBlock ∧ some k_ ≠ (.slice (some d_0) x7_1.length co63 : Value).ownBlock) (.slice Ao64 x780001_3.length co64) x780001_3) ∧ (w'.heap[g_2]? = some (.cells #[.int .i64 a0_0, .slice A0_1 l0_1.length c0_1] 24 (0, 0))) ∧ (w'.heap[g_1]? = some (.cells #[.int .i64 x780000_3, .slice Ao64 x780001_3.length co64] 24 (0, 0))) ∧ (w'.heap[s_.2]? = some (.cells #[.int .i64 0, .slice none 0 0] 24 (0, 0))) ∧ (w.heap.size ≤ s_.2) ∧ (w.heap.size ≤ s_.2) ∧ (g_2 ≠ s_.2) ∧ (s_.2 ≠ g_2) ∧ (g_1 ≠ s_.2) ∧ (s_.2 ≠ g_1) ∧ (Below w.heap.size w w')) ?_ ?_
             rotate_left
             ·intro hCont
              refine two_ (i := 5) (j := 9) (Ni := some 89) (Nj := some 14) #[true, true, true, true, true, true, false, false, false, false, false, false] #[true, true, true, true, true, false, false, false, false, true, false, false] rfl rfl rfl rfl (Y1l HT_.out (by kernel_rfl)) (by decide) (by decide) (fun K hK => ?_) (fun K hK => ?_)
              ·skip
               refine goes_ Try.func19 (by kernel_rfl) rfl #[.agg #[.int .i64 x780000_3, .slice Ao64 x780001_3.length co64], .agg #[.int .i64 ((Y7 x7_1 x13_3).f0.f0), .int .i64 ((Y7 x7_1 x13_3).f0.f1), .int .i64 ((Y7 x7_1 x13_3).f1), .int .i64 ((Y7 x7_1 x13_3).f2.f0), .int .i64 ((Y7 x7_1 x13_3).f2.f1), .bool ((Y7 x7_1 x13_3).f3), .int .i64 ((Y7 x7_1 x13_3).f4.f0), .int .i64 ((Y7 x7_1 x13_3).f4.f1), .int .i64 ((Y7 x7_1 x13_3).f4.f2), .int .i64 ((Y7 x7_1 x13_3).f4.f3), .int .i64 ((Y7 x7_1 x13_3).f4.f4), .int .i64 ((Y7 x7_1 x13_3).f4.f5), .int .i64 ((Y7 x7_1 x13_3).f4.f6)]] (by rfl) rfl rfl (by (try simp only [List.map_toArray, List.map_cons, List.map_nil]); first | done | rfl | (simp only [List.length_drop, List.length_take]; rfl)) ?_
               with_reducible refine (Yt.calls x780000_3 _ _ x780001_3 ((Y7 x7_1 x13_3).f0.f0) ((Y7 x7_1 x13_3).f0.f1) ((Y7 x7_1 x13_3).f1) ((Y7 x7_1 x13_3).f2.f0) ((Y7 x7_1 x13_3).f2.f1) ((Y7 x7_1 x13_3).f3) ((Y7 x7_1 x13_3).f4.f0) ((Y7 x7_1 x13_3).f4.f1) ((Y7 x7_1 x13_3).f4.f2) ((Y7 x7_1 x13_3).f4.f3) ((Y7 x7_1 x13_3).f4.f4) ((Y7 x7_1 x13_3).f4.f5) ((Y7 x7_1 x13_3).f4.f6) t_0 t_1 t_2 _ ?side1 ?side2 A61.out).mono ?_
               (case side1 => repeat (first | exact (Kd.R_reads' HO_780001.out).2.2 | (with_reducible refine Kd.C_alloc ?_ _) | (with_reducible refine Kd.C_drewN ?_ _) | (with_reducible refine Kd.C_drew ?_)))
               (case side2 => exact (Kd.R_reads' HO_780001.out).2.1)
               rintro e w66 ⟨v_0, rfl, ho0, hb⟩
               have HS2_ := (hb.cell (World.block_lt_of_cell? _ _ (hHeld.2.2.1))).trans (hHeld.2.2.1)
               have HS3_ := (hb.cell (World.block_lt_of_cell? _ _ (hHeld.2.2.2.1))).trans (hHeld.2.2.2.1)
               have HS4_ := (hb.cell (World.block_lt_of_cell? _ _ (hHeld.2.2.2.2.1))).trans (hHeld.2.2.2.2.1)
               have HS5_ := (hb.cell (World.block_lt_of_cell? _ _ (hHeld.2.2.2.2.2.1))).trans (hHeld.2.2.2.2.2.1)
               have HS6_ := (hb.cell (World.block_lt_of_cell? _ _ (hHeld.2.2.2.2.2.2.1))).trans (hHeld.2.2.2.2.2.2.1)
               have HS7_ := (hb.cell (World.block_lt_of_cell? _ _ (hHeld.2.2.2.2.2.2.2.1))).trans (hHeld.2.2.2.2.2.2.2.1)
               have HS8_ := (hb.cell (World.block_lt_of_cell? _ _ (hHeld.2.2.2.2.2.2.2.2.1))).trans (hHeld.2.2.2.2.2.2.2.2.1)
               have HS9_ := (hb.cell (World.block_lt_of_cell? _ _ (hHeld.2.2.2.2.2.2.2.2.2.1))).trans (hHeld.2.2.2.2.2.2.2.2.2.1)
               have HS10_ := (hb.cell (World.block_lt_of_cell? _ _ (hHeld.2.2.2.2.2.2.2.2.2.2.1))).trans (hHeld.2.2.2.2.2.2.2.2.2.2.1)
               have HS11_ := (hb.cell (World.block_lt_of_cell? _ _ (hHeld.2.2.2.2.2.2.2.2.2.2.2.1))).trans (hHeld.2.2.2.2.2.2.2.2.2.2.2.1)
               have HS12_ := (hb.cell (World.block_lt_of_cell? _ _ (hHeld.2.2.2.2.2.2.2.2.2.2.2.2.1))).trans (hHeld.2.2.2.2.2.2.2.2.2.2.2.2.1)
               have HS13_ := (hb.cell (World.block_lt_of_cell? _ _ (hHeld.2.2.2.2.2.2.2.2.2.2.2.2.2.1))).trans (hHeld.2.2.2.2.2.2.2.2.2.2.2.2.2.1)
               have HS14_ := (hb.cell (World.block_lt_of_cell? _ _ (hHeld.2.2.2.2.2.2.2.2.2.2.2.2.2.2))).trans (hHeld.2.2.2.2.2.2.2.2.2.2.2.2.2.2)
               refine ⟨_, rfl, ?_⟩
               replace O_0 := Y0.mk (Kd.R_lower (Kd.R_new' (Kd.R_new' ho0 (Kd.R_lt (Kd.rU HO_7.out))) (Kd.R_lt (Kd.rU HO_780001.out))) (Yi (hU HB.out)))
               replace HO_7 := Y0.mk (Kd.R_elder' (Kd.rU HO_7.out) (Kd.R_base ho0) hb)
               replace HO_780001 := Y0.mk (Kd.R_elder' (Kd.rU HO_780001.out) (Kd.R_base ho0) hb)
               replace B_1 := Y0.mk (Y3 (bU B_1.out) hb)
               replace B_2 := Y0.mk (Y3 (bU B_2.out) hb)
               replace HB := Y0.mk (Y5 (hU HB.out) hb)
               (try clear hb)
               (try clear hb2)
               (try clear hk)
               (try clear hi)
               (try clear ho0)
               refine hK.out _ _ ⟨(Y1 B_2.out 0).trans rfl, (Y1 B_2.out 1).trans rfl, HS2_, HS3_, HS4_, HS5_, HS6_, HS7_, HS8_, HS9_, HS10_, HS11_, HS12_, HS13_, HS14_⟩ (fun hHeld => ?_)
               clear hK K
               refine nmA 89 ?_
               refine puA 6 83 (bs 12 127) ?_
               refine puA 7 90 (bs 12 255) ?_
               refine puA 8 91 (bs 12 511) ?_
               refine one_ (i := 9) (N := some 14) (bs 12 1023) rfl rfl (YF HT_.out (by kernel_rfl)) (by decide) (fun K hK => ?_)
               refine YJ ?hg (N := 14) ?hd (cs := #[.int .i64 0, .slice none 0 0]) (t := 24) ?hr ?_; (case hd => rfl); (case hg => rfl); (case hr => first | (go_simp; done) | (go_simp; rfl))
               intro g_0 hg w67 hbox hb
               have HS2_ := (hb.cell (World.block_lt_of_cell? _ _ (hHeld.2.2.1))).trans (hHeld.2.2.1)
               have HS3_ := (hb.cell (World.block_lt_of_cell? _ _ (hHeld.2.2.2.1))).trans (hHeld.2.2.2.1)
               have HS4_ := (hb.cell (World.block_lt_of_cell? _ _ (hHeld.2.2.2.2.1))).trans (hHeld.2.2.2.2.1)
               have HS5_ := (hb.cell (World.block_lt_of_cell? _ _ (hHeld.2.2.2.2.2.1))).trans (hHeld.2.2.2.2.2.1)
               have HS6_ := (hb.cell (World.block_lt_of_cell? _ _ (hHeld.2.2.2.2.2.2.1))).trans (hHeld.2.2.2.2.2.2.1)
               have HS7_ := (hb.cell (World.block_lt_of_cell? _ _ (hHeld.2.2.2.2.2.2.2.1))).trans (hHeld.2.2.2.2.2.2.2.1)
               have HS8_ := (hb.cell (World.block_lt_of_cell? _ _ (hHeld.2.2.2.2.2.2.2.2.1))).trans (hHeld.2.2.2.2.2.2.2.2.1)
               have HS9_ := (hb.cell (World.block_lt_of_cell? _ _ (hHeld.2.2.2.2.2.2.2.2.2.1))).trans (hHeld.2.2.2.2.2.2.2.2.2.1)
               have HS10_ := (hb.cell (World.block_lt_of_cell? _ _ (hHeld.2.2.2.2.2.2.2.2.2.2.1))).trans (hHeld.2.2.2.2.2.2.2.2.2.2.1)
               have HS11_ := (hb.cell (World.block_lt_of_cell? _ _ (hHeld.2.2.2.2.2.2.2.2.2.2.2.1))).trans (hHeld.2.2.2.2.2.2.2.2.2.2.2.1)
               have HS12_ := (hb.cell (World.block_lt_of_cell? _ _ (hHeld.2.2.2.2.2.2.2.2.2.2.2.2.1))).trans (hHeld.2.2.2.2.2.2.2.2.2.2.2.2.1)
               have HS13_ := (hb.cell (World.block_lt_of_cell? _ _ (hHeld.2.2.2.2.2.2.2.2.2.2.2.2.2.1))).trans (hHeld.2.2.2.2.2.2.2.2.2.2.2.2.2.1)
               have HS14_ := (hb.cell (World.block_lt_of_cell? _ _ (hHeld.2.2.2.2.2.2.2.2.2.2.2.2.2.2))).trans (hHeld.2.2.2.2.2.2.2.2.2.2.2.2.2.2)
               have n0_ := Y0.mk (Kd.R_below (Kd.rU HO_7.out) hb)
               have n1_ := Y0.mk (Kd.R_below (Kd.rU HO_780001.out) hb)
               have n2_ := Y0.mk (Kd.R_below (Kd.rU O_0.out) hb)
               have n3_ := Y0.mk (Y3 (bU B_1.out) hb)
               have n4_ := Y0.mk (Y3 (bU B_2.out) hb)
               have n5_ := Y0.mk (Y5 (hU HB.out) hb)
               have n6_ := Y0.mk (hbox)
               have n7_ := gE hg HB
               have n8_ := gE hg HB
               have n9_ := gL hg B_1
               have n10_ := gG hg B_1
               have n11_ := gL hg B_2
               have n12_ := gG hg B_2
               clear HO_7
               clear HO_780001
               clear O_0
               clear B_1
               clear B_2
               clear HB
               have HO_7 := n0_
               have HO_780001 := n1_
               have O_0 := n2_
               have B_1 := n3_
               have B_2 := n4_
               have HB := n5_
               have B_0 := n6_
               have W_0 := n7_
               have G_0 := n8_
               have N_1 := n9_
               have N_2 := n10_
               have N_0 := n11_
               have N_3 := n12_
               clear n0_ n1_ n2_ n3_ n4_ n5_ n6_ n7_ n8_ n9_ n10_ n11_ n12_
               clear hb hbox hg
               refine hK.out _ _ ⟨(Y1 B_2.out 0).trans rfl, (Y1 B_2.out 1).trans rfl, HS2_, HS3_, HS4_, HS5_, HS6_, HS7_, HS8_, HS9_, HS10_, HS11_, HS12_, HS13_, HS14_⟩ (fun hHeld => ?_)
               clear hK K
               refine nmA 14 ?_
               exact norm_ (by simp only [YA, Act.put, List.setIfInBounds_toArray, List.set_cons_zero, List.set_cons_succ]) (hCont (v_0, g_0) _ ⟨hHeld, (by (with_reducible repeat (first | apply Kd.R_alloc | apply Kd.R_drewN | apply Kd.R_drew)); exact Kd.R_mono O_0.out (fun _ hk => by revert hk; simp only [and_imp]; intros; (repeat' apply And.intro) <;> assumption)), (by (with_reducible repeat (first | apply Kd.R_alloc | apply Kd.R_drewN | apply Kd.R_drew)); exact Kd.R_mono HO_7.out (fun _ hk => by revert hk; simp only [and_imp]; intros; (repeat' apply And.intro) <;> assumption)), (by (with_reducible repeat (first | apply Kd.R_alloc | apply Kd.R_drewN | apply Kd.R_drew)); exact Kd.R_mono HO_780001.out (fun _ hk => by revert hk; simp only [and_imp]; intros; (repeat' apply And.intro) <;> assumption)), (bU B_1.out), (bU B_2.out), (bU B_0.out), W_0.out, G_0.out, N_1.out, N_2.out, N_0.out, N_3.out, (hU HB.out)⟩)
              ·skip
               refine YJ ?hg (N := 14) ?hd (cs := #[.int .i64 0, .slice none 0 0]) (t := 24) ?hr ?_; (case hd => rfl); (case hg => rfl); (case hr => first | (go_simp; done) | (go_simp; rfl))
               intro g_0 hg w66 hbox hb
               have HS2_ := (hb.cell (World.block_lt_of_cell? _ _ (hHeld.2.2.1))).trans (hHeld.2.2.1)
               have HS3_ := (hb.cell (World.block_lt_of_cell? _ _ (hHeld.2.2.2.1))).trans (hHeld.2.2.2.1)
               have HS4_ := (hb.cell (World.block_lt_of_cell? _ _ (hHeld.2.2.2.2.1))).trans (hHeld.2.2.2.2.1)
               have HS5_ := (hb.cell (World.block_lt_of_cell? _ _ (hHeld.2.2.2.2.2.1))).trans (hHeld.2.2.2.2.2.1)
               have HS6_ := (hb.cell (World.block_lt_of_cell? _ _ (hHeld.2.2.2.2.2.2.1))).trans (hHeld.2.2.2.2.2.2.1)
               have HS7_ := (hb.cell (World.block_lt_of_cell? _ _ (hHeld.2.2.2.2.2.2.2.1))).trans (hHeld.2.2.2.2.2.2.2.1)
               have HS8_ := (hb.cell (World.block_lt_of_cell? _ _ (hHeld.2.2.2.2.2.2.2.2.1))).trans (hHeld.2.2.2.2.2.2.2.2.1)
               have HS9_ := (hb.cell (World.block_lt_of_cell? _ _ (hHeld.2.2.2.2.2.2.2.2.2.1))).trans (hHeld.2.2.2.2.2.2.2.2.2.1)
               have HS10_ := (hb.cell (World.block_lt_of_cell? _ _ (hHeld.2.2.2.2.2.2.2.2.2.2.1))).trans (hHeld.2.2.2.2.2.2.2.2.2.2.1)
               have HS11_ := (hb.cell (World.block_lt_of_cell? _ _ (hHeld.2.2.2.2.2.2.2.2.2.2.2.1))).trans (hHeld.2.2.2.2.2.2.2.2.2.2.2.1)
               have HS12_ := (hb.cell (World.block_lt_of_cell? _ _ (hHeld.2.2.2.2.2.2.2.2.2.2.2.2.1))).trans (hHeld.2.2.2.2.2.2.2.2.2.2.2.2.1)
               have HS13_ := (hb.cell (World.block_lt_of_cell? _ _ (hHeld.2.2.2.2.2.2.2.2.2.2.2.2.2.1))).trans (hHeld.2.2.2.2.2.2.2.2.2.2.2.2.2.1)
               have HS14_ := (hb.cell (World.block_lt_of_cell? _ _ (hHeld.2.2.2.2.2.2.2.2.2.2.2.2.2.2))).trans (hHeld.2.2.2.2.2.2.2.2.2.2.2.2.2.2)
               have n0_ := Y0.mk (Kd.R_below (Kd.rU HO_7.out) hb)
               have n1_ := Y0.mk (Kd.R_below (Kd.rU HO_780001.out) hb)
               have n2_ := Y0.mk (Y3 (bU B_1.out) hb)
               have n3_ := Y0.mk (Y3 (bU B_2.out) hb)
               have n4_ := Y0.mk (Y5 (hU HB.out) hb)
               have n5_ := Y0.mk (hbox)
               have n6_ := gE hg HB
               have n7_ := gE hg HB
               have n8_ := gL hg B_1
               have n9_ := gG hg B_1
               have n10_ := gL hg B_2
               have n11_ := gG hg B_2
               clear HO_7
               clear HO_780001
               clear B_1
               clear B_2
               clear HB
               have HO_7 := n0_
               have HO_780001 := n1_
               have B_1 := n2_
               have B_2 := n3_
               have HB := n4_
               have B_0 := n5_
               have W_0 := n6_
               have G_0 := n7_
               have N_1 := n8_
               have N_2 := n9_
               have N_0 := n10_
               have N_3 := n11_
               clear n0_ n1_ n2_ n3_ n4_ n5_ n6_ n7_ n8_ n9_ n10_ n11_
               clear hb hbox hg
               refine hK.out _ _ ⟨(Y1 B_2.out 0).trans rfl, (Y1 B_2.out 1).trans rfl, HS2_, HS3_, HS4_, HS5_, HS6_, HS7_, HS8_, HS9_, HS10_, HS11_, HS12_, HS13_, HS14_⟩ (fun hHeld => ?_)
               clear hK K
               refine nmA 14 ?_
               refine one_ (i := 5) (N := some 89) (bs 12 575) rfl rfl (YF HT_.out (by kernel_rfl)) (by decide) (fun K hK => ?_)
               refine goes_ Try.func19 (by kernel_rfl) rfl #[.agg #[.int .i64 x780000_3, .slice Ao64 x780001_3.length co64], .agg #[.int .i64 ((Y7 x7_1 x13_3).f0.f0), .int .i64 ((Y7 x7_1 x13_3).f0.f1), .int .i64 ((Y7 x7_1 x13_3).f1), .int .i64 ((Y7 x7_1 x13_3).f2.f0), .int .i64 ((Y7 x7_1 x13_3).f2.f1), .bool ((Y7 x7_1 x13_3).f3), .int .i64 ((Y7 x7_1 x13_3).f4.f0), .int .i64 ((Y7 x7_1 x13_3).f4.f1), .int .i64 ((Y7 x7_1 x13_3).f4.f2), .int .i64 ((Y7 x7_1 x13_3).f4.f3), .int .i64 ((Y7 x7_1 x13_3).f4.f4), .int .i64 ((Y7 x7_1 x13_3).f4.f5), .int .i64 ((Y7 x7_1 x13_3).f4.f6)]] (by rfl) rfl rfl (by (try simp only [List.map_toArray, List.map_cons, List.map_nil]); first | done | rfl | (simp only [List.length_drop, List.length_take]; rfl)) ?_
               with_reducible refine (Yt.calls x780000_3 _ _ x780001_3 ((Y7 x7_1 x13_3).f0.f0) ((Y7 x7_1 x13_3).f0.f1) ((Y7 x7_1 x13_3).f1) ((Y7 x7_1 x13_3).f2.f0) ((Y7 x7_1 x13_3).f2.f1) ((Y7 x7_1 x13_3).f3) ((Y7 x7_1 x13_3).f4.f0) ((Y7 x7_1 x13_3).f4.f1) ((Y7 x7_1 x13_3).f4.f2) ((Y7 x7_1 x13_3).f4.f3) ((Y7 x7_1 x13_3).f4.f4) ((Y7 x7_1 x13_3).f4.f5) ((Y7 x7_1 x13_3).f4.f6) t_0 t_1 t_2 _ ?side1 ?side2 A61.out).mono ?_
               (case side1 => repeat (first | exact (Kd.R_reads' HO_780001.out).2.2 | (with_reducible refine Kd.C_alloc ?_ _) | (with_reducible refine Kd.C_drewN ?_ _) | (with_reducible refine Kd.C_drew ?_)))
               (case side2 => exact (Kd.R_reads' HO_780001.out).2.1)
               rintro e w67 ⟨v_0, rfl, ho0, hb⟩
               have HS2_ := (hb.cell (World.block_lt_of_cell? _ _ (hHeld.2.2.1))).trans (hHeld.2.2.1)
               have HS3_ := (hb.cell (World.block_lt_of_cell? _ _ (hHeld.2.2.2.1))).trans (hHeld.2.2.2.1)
               have HS4_ := (hb.cell (World.block_lt_of_cell? _ _ (hHeld.2.2.2.2.1))).trans (hHeld.2.2.2.2.1)
               have HS5_ := (hb.cell (World.block_lt_of_cell? _ _ (hHeld.2.2.2.2.2.1))).trans (hHeld.2.2.2.2.2.1)
               have HS6_ := (hb.cell (World.block_lt_of_cell? _ _ (hHeld.2.2.2.2.2.2.1))).trans (hHeld.2.2.2.2.2.2.1)
               have HS7_ := (hb.cell (World.block_lt_of_cell? _ _ (hHeld.2.2.2.2.2.2.2.1))).trans (hHeld.2.2.2.2.2.2.2.1)
               have HS8_ := (hb.cell (World.block_lt_of_cell? _ _ (hHeld.2.2.2.2.2.2.2.2.1))).trans (hHeld.2.2.2.2.2.2.2.2.1)
               have HS9_ := (hb.cell (World.block_lt_of_cell? _ _ (hHeld.2.2.2.2.2.2.2.2.2.1))).trans (hHeld.2.2.2.2.2.2.2.2.2.1)
               have HS10_ := (hb.cell (World.block_lt_of_cell? _ _ (hHeld.2.2.2.2.2.2.2.2.2.2.1))).trans (hHeld.2.2.2.2.2.2.2.2.2.2.1)
               have HS11_ := (hb.cell (World.block_lt_of_cell? _ _ (hHeld.2.2.2.2.2.2.2.2.2.2.2.1))).trans (hHeld.2.2.2.2.2.2.2.2.2.2.2.1)
               have HS12_ := (hb.cell (World.block_lt_of_cell? _ _ (hHeld.2.2.2.2.2.2.2.2.2.2.2.2.1))).trans (hHeld.2.2.2.2.2.2.2.2.2.2.2.2.1)
               have HS13_ := (hb.cell (World.block_lt_of_cell? _ _ (hHeld.2.2.2.2.2.2.2.2.2.2.2.2.2.1))).trans (hHeld.2.2.2.2.2.2.2.2.2.2.2.2.2.1)
               have HS14_ := (hb.cell (World.block_lt_of_cell? _ _ (hHeld.2.2.2.2.2.2.2.2.2.2.2.2.2.2))).trans (hHeld.2.2.2.2.2.2.2.2.2.2.2.2.2.2)
               refine ⟨_, rfl, ?_⟩
               replace O_0 := Y0.mk (Kd.R_lower (Kd.R_new' (Kd.R_new' ho0 (Kd.R_lt (Kd.rU HO_7.out))) (Kd.R_lt (Kd.rU HO_780001.out))) (Yi (hU HB.out)))
               replace HO_7 := Y0.mk (Kd.R_elder' (Kd.rU HO_7.out) (Kd.R_base ho0) hb)
               replace HO_780001 := Y0.mk (Kd.R_elder' (Kd.rU HO_780001.out) (Kd.R_base ho0) hb)
               replace B_1 := Y0.mk (Y3 (bU B_1.out) hb)
               replace B_2 := Y0.mk (Y3 (bU B_2.out) hb)
               replace B_0 := Y0.mk (Y3 (bU B_0.out) hb)
               replace HB := Y0.mk (Y5 (hU HB.out) hb)
               (try clear hb)
               (try clear hb2)
               (try clear hk)
               (try clear hi)
               (try clear ho0)
               refine hK.out _ _ ⟨(Y1 B_2.out 0).trans rfl, (Y1 B_2.out 1).trans rfl, HS2_, HS3_, HS4_, HS5_, HS6_, HS7_, HS8_, HS9_, HS10_, HS11_, HS12_, HS13_, HS14_⟩ (fun hHeld => ?_)
               clear hK K
               refine nmA 89 ?_
               refine puA 6 83 (bs 12 639) ?_
               refine puA 7 90 (bs 12 767) ?_
               refine puA 8 91 (bs 12 1023) ?_
               exact norm_ (by simp only [YA, Act.put, List.setIfInBounds_toArray, List.set_cons_zero, List.set_cons_succ]) (hCont (v_0, g_0) _ ⟨hHeld, (by (with_reducible repeat (first | apply Kd.R_alloc | apply Kd.R_drewN | apply Kd.R_drew)); exact Kd.R_mono O_0.out (fun _ hk => by revert hk; simp only [and_imp]; intros; (repeat' apply And.intro) <;> assumption)), (by (with_reducible repeat (first | apply Kd.R_alloc | apply Kd.R_drewN | apply Kd.R_drew)); exact Kd.R_mono HO_7.out (fun _ hk => by revert hk; simp only [and_imp]; intros; (repeat' apply And.intro) <;> assumption)), (by (with_reducible repeat (first | apply Kd.R_alloc | apply Kd.R_drewN | apply Kd.R_drew)); exact Kd.R_mono HO_780001.out (fun _ hk => by revert hk; simp only [and_imp]; intros; (repeat' apply And.intro) <;> assumption)), (bU B_1.out), (bU B_2.out), (bU B_0.out), W_0.out, G_0.out, N_1.out, N_2.out, N_0.out, N_3.out, (hU HB.out)⟩)
             rintro ⟨v_0, g_0⟩ w68 ⟨hS_, h0_, h1_, h2_, h3_, h4_, h5_, h6_, h7_, h8_, h9_, h10_, h11_, h12_⟩
             have n0_ : Y0 (Kd.R k30 30 w68 w.heap.size (fun k_ => some k_ ≠ (.slice (some d_0) x7_1.length co63 : Value).ownBlock ∧ some k_ ≠ (.slice Ao64 x780001_3.length co64 : Value).ownBlock) v_0 t_1) := ⟨h0_⟩
             have n1_ : Y0 (Kd.R k30 30 w68 w.heap.size (fun k_ => some k_ ≠ (v_0 : Value).ownBlock ∧ some k_ ≠ (.slice Ao64 x780001_3.length co64 : Value).ownBlock) (.slice (some d_0) x7_1.length co63) x7_1) := ⟨h1_⟩
             have n2_ : Y0 (Kd.R k30 30 w68 w.heap.size (fun k_ => some k_ ≠ (v_0 : Value).ownBlock ∧ some k_ ≠ (.slice (some d_0) x7_1.length co63 : Value).ownBlock) (.slice Ao64 x780001_3.length co64) x780001_3) := ⟨h2_⟩
             have n3_ : Y0 (w68.heap[g_2]? = some (.cells #[.int .i64 a0_0, .slice A0_1 l0_1.length c0_1] 24 (0, 0))) := ⟨h3_⟩
             have n4_ : Y0 (w68.heap[g_1]? = some (.cells #[.int .i64 x780000_3, .slice Ao64 x780001_3.length co64] 24 (0, 0))) := ⟨h4_⟩
             have n5_ : Y0 (w68.heap[g_0]? = some (.cells #[.int .i64 0, .slice none 0 0] 24 (0, 0))) := ⟨h5_⟩
             have n6_ : Y0 (w.heap.size ≤ g_0) := ⟨h6_⟩
             have n7_ : Y0 (w.heap.size ≤ g_0) := ⟨h7_⟩
             have n8_ : Y0 (g_2 ≠ g_0) := ⟨h8_⟩
             have n9_ : Y0 (g_0 ≠ g_2) := ⟨h9_⟩
             have n10_ : Y0 (g_1 ≠ g_0) := ⟨h10_⟩
             have n11_ : Y0 (g_0 ≠ g_1) := ⟨h11_⟩
             have n12_ : Y0 (Below w.heap.size w w68) := ⟨h12_⟩
             clear HO_7
             clear HO_780001
             clear B_1
             clear B_2
             clear HB
             clear h0_ h1_ h2_ h3_ h4_ h5_ h6_ h7_ h8_ h9_ h10_ h11_ h12_
             have O_0 := n0_
             have HO_7 := n1_
             have HO_780001 := n2_
             have B_1 := n3_
             have B_2 := n4_
             have B_0 := n5_
             have W_0 := n6_
             have G_0 := n7_
             have N_1 := n8_
             have N_2 := n9_
             have N_0 := n10_
             have N_3 := n11_
             have HB := n12_
             clear n0_ n1_ n2_ n3_ n4_ n5_ n6_ n7_ n8_ n9_ n10_ n11_ n12_
             have hHeld : w68.cell? ⟨g_1, 0, none⟩ = some (.int .i64 x780000_3) ∧ w68.cell? ⟨g_1, 1, none⟩ = some (.slice Ao64 x780001_3.length co64) ∧ w68.cell? (d_0.add ((x13_3).toNat * 13)) = some (.int .i64 ((Y7 x7_1 x13_3).f0.f0)) ∧ w68.cell? ⟨(d_0.add ((x13_3).toNat * 13)).block, (d_0.add ((x13_3).toNat * 13)).off + 1, none⟩ = some (.int .i64 ((Y7 x7_1 x13_3).f0.f1)) ∧ w68.cell? ⟨(d_0.add ((x13_3).toNat * 13)).block, (d_0.add ((x13_3).toNat * 13)).off + 2, none⟩ = some (.int .i64 ((Y7 x7_1 x13_3).f1)) ∧ w68.cell? ⟨(d_0.add ((x13_3).toNat * 13)).block, (d_0.add ((x13_3).toNat * 13)).off + 3, none⟩ = some (.int .i64 ((Y7 x7_1 x13_3).f2.f0)) ∧ w68.cell? ⟨(d_0.add ((x13_3).toNat * 13)).block, (d_0.add ((x13_3).toNat * 13)).off + 4, none⟩ = some (.int .i64 ((Y7 x7_1 x13_3).f2.f1)) ∧ w68.cell? ⟨(d_0.add ((x13_3).toNat * 13)).block, (d_0.add ((x13_3).toNat * 13)).off + 5, none⟩ = some (.bool ((Y7 x7_1 x13_3).f3)) ∧ w68.cell? ⟨(d_0.add ((x13_3).toNat * 13)).block, (d_0.add ((x13_3).toNat * 13)).off + 6, none⟩ = some (.int .i64 ((Y7 x7_1 x13_3).f4.f0)) ∧ w68.cell? ⟨(d_0.add ((x13_3).toNat * 13)).block, (d_0.add ((x13_3).toNat * 13)).off + 7, none⟩ = some (.int .i64 ((Y7 x7_1 x13_3).f4.f1)) ∧ w68.cell? ⟨(d_0.add ((x13_3).toNat * 13)).block, (d_0.add ((x13_3).toNat * 13)).off + 8, none⟩ = some (.int .i64 ((Y7 x7_1 x13_3).f4.f2)) ∧ w68.cell? ⟨(d_0.add ((x13_3).toNat * 13)).block, (d_0.add ((x13_3).toNat * 13)).off + 9, none⟩ = some (.int .i64 ((Y7 x7_1 x13_3).f4.f3)) ∧ w68.cell? ⟨(d_0.add ((x13_3).toNat * 13)).block, (d_0.add ((x13_3).toNat * 13)).off + 10, none⟩ = some (.int .i64 ((Y7 x7_1 x13_3).f4.f4)) ∧ w68.cell? ⟨(d_0.add ((x13_3).toNat * 13)).block, (d_0.add ((x13_3).toNat * 13)).off + 11, none⟩ = some (.int .i64 ((Y7 x7_1 x13_3).f4.f5)) ∧ w68.cell? ⟨(d_0.add ((x13_3).toNat * 13)).block, (d_0.add ((x13_3).toNat * 13)).off + 12, none⟩ = some (.int .i64 ((Y7 x7_1 x13_3).f4.f6)) := hS_
             obtain ⟨Ao70, co70, eo70⟩ := Kd.R_slice O_0.out
             (first | subst eo70 | (injection eo70 with f1_ f2_ f3_; have f4_ := f1_.symm; have f5_ := f3_.symm; clear f1_ f2_ f3_; subst f4_; subst f5_))
             refine norm_ (a' := ?_) ?_ ?_
             rotate_left
             ·simp only [YA, Act.put, List.setIfInBounds_toArray, List.set_cons_zero, List.set_cons_succ]
              rfl
             refine one_ (i := 10) (N := none) #[true, true, true, true, true, true, true, true, true, true, true, false] rfl rfl (YF HT_.out (by kernel_rfl)) (by decide) (fun K hK => ?_)
             have hs69 : w68.cell? ⟨g_0, 0, none⟩ = some (.int .i64 0) := (Y1 B_0.out 0).trans rfl
             have hfs69 := Y6 B_0.out 0
             have hns69_0 := N_1.out
             have hns69_1 := N_0.out
             have hms69_0 := N_2.out
             have hms69_1 := N_3.out
             have hs71 : w68.cell? ⟨g_0, 1, none⟩ = some (.slice none 0 0) := (Y1 B_0.out 1).trans rfl
             have hfs71 := Y6 B_0.out 1
             have hns71_0 := N_1.out
             have hns71_1 := N_0.out
             have hms71_0 := N_2.out
             have hms71_1 := N_3.out
             refine skip_ (w1 := ?_) (by rfl) rfl ?_ ?_
             rotate_left
             ·go_simp
              rfl
             refine hK.out _ _ ⟨((Yk (p := ⟨g_0, _, none⟩) N_0.out _).trans (((Yk (p := ⟨g_0, _, none⟩) N_0.out _).trans (hHeld.1)))), ((Yk (p := ⟨g_0, _, none⟩) N_0.out _).trans (((Yk (p := ⟨g_0, _, none⟩) N_0.out _).trans (hHeld.2.1)))), ((Yk (p := ⟨g_0, _, none⟩) (by first | exact Kd.own_blk (Kd.R_ne HO_7.out B_0.out (by decide)) | (rw [Yh]; exact Kd.own_blk (Kd.R_ne HO_7.out B_0.out (by decide))) | (show (Addr.add _ _).block ≠ _; rw [Yh]; exact Kd.own_blk (Kd.R_ne HO_7.out B_0.out (by decide))) | (dsimp only; exact Kd.own_blk (Kd.R_ne HO_7.out B_0.out (by decide)))) _).trans (((Yk (p := ⟨g_0, _, none⟩) (by first | exact Kd.own_blk (Kd.R_ne HO_7.out B_0.out (by decide)) | (rw [Yh]; exact Kd.own_blk (Kd.R_ne HO_7.out B_0.out (by decide))) | (show (Addr.add _ _).block ≠ _; rw [Yh]; exact Kd.own_blk (Kd.R_ne HO_7.out B_0.out (by decide))) | (dsimp only; exact Kd.own_blk (Kd.R_ne HO_7.out B_0.out (by decide)))) _).trans (hHeld.2.2.1)))), ((Yk (p := ⟨g_0, _, none⟩) (by first | exact Kd.own_blk (Kd.R_ne HO_7.out B_0.out (by decide)) | (rw [Yh]; exact Kd.own_blk (Kd.R_ne HO_7.out B_0.out (by decide))) | (show (Addr.add _ _).block ≠ _; rw [Yh]; exact Kd.own_blk (Kd.R_ne HO_7.out B_0.out (by decide))) | (dsimp only; exact Kd.own_blk (Kd.R_ne HO_7.out B_0.out (by decide)))) _).trans (((Yk (p := ⟨g_0, _, none⟩) (by first | exact Kd.own_blk (Kd.R_ne HO_7.out B_0.out (by decide)) | (rw [Yh]; exact Kd.own_blk (Kd.R_ne HO_7.out B_0.out (by decide))) | (show (Addr.add _ _).block ≠ _; rw [Yh]; exact Kd.own_blk (Kd.R_ne HO_7.out B_0.out (by decide))) | (dsimp only; exact Kd.own_blk (Kd.R_ne HO_7.out B_0.out (by decide)))) _).trans (hHeld.2.2.2.1)))), ((Yk (p := ⟨g_0, _, none⟩) (by first | exact Kd.own_blk (Kd.R_ne HO_7.out B_0.out (by decide)) | (rw [Yh]; exact Kd.own_blk (Kd.R_ne HO_7.out B_0.out (by decide))) | (show (Addr.add _ _).block ≠ _; rw [Yh]; exact Kd.own_blk (Kd.R_ne HO_7.out B_0.out (by decide))) | (dsimp only; exact Kd.own_blk (Kd.R_ne HO_7.out B_0.out (by decide)))) _).trans (((Yk (p := ⟨g_0, _, none⟩) (by first | exact Kd.own_blk (Kd.R_ne HO_7.out B_0.out (by decide)) | (rw [Yh]; exact Kd.own_blk (Kd.R_ne HO_7.out B_0.out (by decide))) | (show (Addr.add _ _).block ≠ _; rw [Yh]; exact Kd.own_blk (Kd.R_ne HO_7.out B_0.out (by decide))) | (dsimp only; exact Kd.own_blk (Kd.R_ne HO_7.out B_0.out (by decide)))) _).trans (hHeld.2.2.2.2.1)))), ((Yk (p := ⟨g_0, _, none⟩) (by first | exact Kd.own_blk (Kd.R_ne HO_7.out B_0.out (by decide)) | (rw [Yh]; exact Kd.own_blk (Kd.R_ne HO_7.out B_0.out (by decide))) | (show (Addr.add _ _).block ≠ _; rw [Yh]; exact Kd.own_blk (Kd.R_ne HO_7.out B_0.out (by decide))) | (dsimp only; exact Kd.own_blk (Kd.R_ne HO_7.out B_0.out (by decide)))) _).trans (((Yk (p := ⟨g_0, _, none⟩) (by first | exact Kd.own_blk (Kd.R_ne HO_7.out B_0.out (by decide)) | (rw [Yh]; exact Kd.own_blk (Kd.R_ne HO_7.out B_0.out (by decide))) | (show (Addr.add _ _).block ≠ _; rw [Yh]; exact Kd.own_blk (Kd.R_ne HO_7.out B_0.out (by decide))) | (dsimp only; exact Kd.own_blk (Kd.R_ne HO_7.out B_0.out (by decide)))) _).trans (hHeld.2.2.2.2.2.1)))), ((Yk (p := ⟨g_0, _, none⟩) (by first | exact Kd.own_blk (Kd.R_ne HO_7.out B_0.out (by decide)) | (rw [Yh]; exact Kd.own_blk (Kd.R_ne HO_7.out B_0.out (by decide))) | (show (Addr.add _ _).block ≠ _; rw [Yh]; exact Kd.own_blk (Kd.R_ne HO_7.out B_0.out (by decide))) | (dsimp only; exact Kd.own_blk (Kd.R_ne HO_7.out B_0.out (by decide)))) _).trans (((Yk (p := ⟨g_0, _, none⟩) (by first | exact Kd.own_blk (Kd.R_ne HO_7.out B_0.out (by decide)) | (rw [Yh]; exact Kd.own_blk (Kd.R_ne HO_7.out B_0.out (by decide))) | (show (Addr.add _ _).block ≠ _; rw [Yh]; exact Kd.own_blk (Kd.R_ne HO_7.out B_0.out (by decide))) | (dsimp only; exact Kd.own_blk (Kd.R_ne HO_7.out B_0.out (by decide)))) _).trans (hHeld.2.2.2.2.2.2.1)))), ((Yk (p := ⟨g_0, _, none⟩) (by first | exact Kd.own_blk (Kd.R_ne HO_7.out B_0.out (by decide)) | (rw [Yh]; exact Kd.own_blk (Kd.R_ne HO_7.out B_0.out (by decide))) | (show (Addr.add _ _).block ≠ _; rw [Yh]; exact Kd.own_blk (Kd.R_ne HO_7.out B_0.out (by decide))) | (dsimp only; exact Kd.own_blk (Kd.R_ne HO_7.out B_0.out (by decide)))) _).trans (((Yk (p := ⟨g_0, _, none⟩) (by first | exact Kd.own_blk (Kd.R_ne HO_7.out B_0.out (by decide)) | (rw [Yh]; exact Kd.own_blk (Kd.R_ne HO_7.out B_0.out (by decide))) | (show (Addr.add _ _).block ≠ _; rw [Yh]; exact Kd.own_blk (Kd.R_ne HO_7.out B_0.out (by decide))) | (dsimp only; exact Kd.own_blk (Kd.R_ne HO_7.out B_0.out (by decide)))) _).trans (hHeld.2.2.2.2.2.2.2.1)))), ((Yk (p := ⟨g_0, _, none⟩) (by first | exact Kd.own_blk (Kd.R_ne HO_7.out B_0.out (by decide)) | (rw [Yh]; exact Kd.own_blk (Kd.R_ne HO_7.out B_0.out (by decide))) | (show (Addr.add _ _).block ≠ _; rw [Yh]; exact Kd.own_blk (Kd.R_ne HO_7.out B_0.out (by decide))) | (dsimp only; exact Kd.own_blk (Kd.R_ne HO_7.out B_0.out (by decide)))) _).trans (((Yk (p := ⟨g_0, _, none⟩) (by first | exact Kd.own_blk (Kd.R_ne HO_7.out B_0.out (by decide)) | (rw [Yh]; exact Kd.own_blk (Kd.R_ne HO_7.out B_0.out (by decide))) | (show (Addr.add _ _).block ≠ _; rw [Yh]; exact Kd.own_blk (Kd.R_ne HO_7.out B_0.out (by decide))) | (dsimp only; exact Kd.own_blk (Kd.R_ne HO_7.out B_0.out (by decide)))) _).trans (hHeld.2.2.2.2.2.2.2.2.1)))), ((Yk (p := ⟨g_0, _, none⟩) (by first | exact Kd.own_blk (Kd.R_ne HO_7.out B_0.out (by decide)) | (rw [Yh]; exact Kd.own_blk (Kd.R_ne HO_7.out B_0.out (by decide))) | (show (Addr.add _ _).block ≠ _; rw [Yh]; exact Kd.own_blk (Kd.R_ne HO_7.out B_0.out (by decide))) | (dsimp only; exact Kd.own_blk (Kd.R_ne HO_7.out B_0.out (by decide)))) _).trans (((Yk (p := ⟨g_0, _, none⟩) (by first | exact Kd.own_blk (Kd.R_ne HO_7.out B_0.out (by decide)) | (rw [Yh]; exact Kd.own_blk (Kd.R_ne HO_7.out B_0.out (by decide))) | (show (Addr.add _ _).block ≠ _; rw [Yh]; exact Kd.own_blk (Kd.R_ne HO_7.out B_0.out (by decide))) | (dsimp only; exact Kd.own_blk (Kd.R_ne HO_7.out B_0.out (by decide)))) _).trans (hHeld.2.2.2.2.2.2.2.2.2.1)))), ((Yk (p := ⟨g_0, _, none⟩) (by first | exact Kd.own_blk (Kd.R_ne HO_7.out B_0.out (by decide)) | (rw [Yh]; exact Kd.own_blk (Kd.R_ne HO_7.out B_0.out (by decide))) | (show (Addr.add _ _).block ≠ _; rw [Yh]; exact Kd.own_blk (Kd.R_ne HO_7.out B_0.out (by decide))) | (dsimp only; exact Kd.own_blk (Kd.R_ne HO_7.out B_0.out (by decide)))) _).trans (((Yk (p := ⟨g_0, _, none⟩) (by first | exact Kd.own_blk (Kd.R_ne HO_7.out B_0.out (by decide)) | (rw [Yh]; exact Kd.own_blk (Kd.R_ne HO_7.out B_0.out (by decide))) | (show (Addr.add _ _).block ≠ _; rw [Yh]; exact Kd.own_blk (Kd.R_ne HO_7.out B_0.out (by decide))) | (dsimp only; exact Kd.own_blk (Kd.R_ne HO_7.out B_0.out (by decide)))) _).trans (hHeld.2.2.2.2.2.2.2.2.2.2.1)))), ((Yk (p := ⟨g_0, _, none⟩) (by first | exact Kd.own_blk (Kd.R_ne HO_7.out B_0.out (by decide)) | (rw [Yh]; exact Kd.own_blk (Kd.R_ne HO_7.out B_0.out (by decide))) | (show (Addr.add _ _).block ≠ _; rw [Yh]; exact Kd.own_blk (Kd.R_ne HO_7.out B_0.out (by decide))) | (dsimp only; exact Kd.own_blk (Kd.R_ne HO_7.out B_0.out (by decide)))) _).trans (((Yk (p := ⟨g_0, _, none⟩) (by first | exact Kd.own_blk (Kd.R_ne HO_7.out B_0.out (by decide)) | (rw [Yh]; exact Kd.own_blk (Kd.R_ne HO_7.out B_0.out (by decide))) | (show (Addr.add _ _).block ≠ _; rw [Yh]; exact Kd.own_blk (Kd.R_ne HO_7.out B_0.out (by decide))) | (dsimp only; exact Kd.own_blk (Kd.R_ne HO_7.out B_0.out (by decide)))) _).trans (hHeld.2.2.2.2.2.2.2.2.2.2.2.1)))), ((Yk (p := ⟨g_0, _, none⟩) (by first | exact Kd.own_blk (Kd.R_ne HO_7.out B_0.out (by decide)) | (rw [Yh]; exact Kd.own_blk (Kd.R_ne HO_7.out B_0.out (by decide))) | (show (Addr.add _ _).block ≠ _; rw [Yh]; exact Kd.own_blk (Kd.R_ne HO_7.out B_0.out (by decide))) | (dsimp only; exact Kd.own_blk (Kd.R_ne HO_7.out B_0.out (by decide)))) _).trans (((Yk (p := ⟨g_0, _, none⟩) (by first | exact Kd.own_blk (Kd.R_ne HO_7.out B_0.out (by decide)) | (rw [Yh]; exact Kd.own_blk (Kd.R_ne HO_7.out B_0.out (by decide))) | (show (Addr.add _ _).block ≠ _; rw [Yh]; exact Kd.own_blk (Kd.R_ne HO_7.out B_0.out (by decide))) | (dsimp only; exact Kd.own_blk (Kd.R_ne HO_7.out B_0.out (by decide)))) _).trans (hHeld.2.2.2.2.2.2.2.2.2.2.2.2.1)))), ((Yk (p := ⟨g_0, _, none⟩) (by first | exact Kd.own_blk (Kd.R_ne HO_7.out B_0.out (by decide)) | (rw [Yh]; exact Kd.own_blk (Kd.R_ne HO_7.out B_0.out (by decide))) | (show (Addr.add _ _).block ≠ _; rw [Yh]; exact Kd.own_blk (Kd.R_ne HO_7.out B_0.out (by decide))) | (dsimp only; exact Kd.own_blk (Kd.R_ne HO_7.out B_0.out (by decide)))) _).trans (((Yk (p := ⟨g_0, _, none⟩) (by first | exact Kd.own_blk (Kd.R_ne HO_7.out B_0.out (by decide)) | (rw [Yh]; exact Kd.own_blk (Kd.R_ne HO_7.out B_0.out (by decide))) | (show (Addr.add _ _).block ≠ _; rw [Yh]; exact Kd.own_blk (Kd.R_ne HO_7.out B_0.out (by decide))) | (dsimp only; exact Kd.own_blk (Kd.R_ne HO_7.out B_0.out (by decide)))) _).trans (hHeld.2.2.2.2.2.2.2.2.2.2.2.2.2.1)))), ((Yk (p := ⟨g_0, _, none⟩) (by first | exact Kd.own_blk (Kd.R_ne HO_7.out B_0.out (by decide)) | (rw [Yh]; exact Kd.own_blk (Kd.R_ne HO_7.out B_0.out (by decide))) | (show (Addr.add _ _).block ≠ _; rw [Yh]; exact Kd.own_blk (Kd.R_ne HO_7.out B_0.out (by decide))) | (dsimp only; exact Kd.own_blk (Kd.R_ne HO_7.out B_0.out (by decide)))) _).trans (((Yk (p := ⟨g_0, _, none⟩) (by first | exact Kd.own_blk (Kd.R_ne HO_7.out B_0.out (by decide)) | (rw [Yh]; exact Kd.own_blk (Kd.R_ne HO_7.out B_0.out (by decide))) | (show (Addr.add _ _).block ≠ _; rw [Yh]; exact Kd.own_blk (Kd.R_ne HO_7.out B_0.out (by decide))) | (dsimp only; exact Kd.own_blk (Kd.R_ne HO_7.out B_0.out (by decide)))) _).trans (hHeld.2.2.2.2.2.2.2.2.2.2.2.2.2.2))))⟩ (fun hHeld => ?_)
             clear hK K
             refine puA 11 15 (bs 12 4095) ?_
             refine done_ (Y1a HT_.out (by kernel_rfl)) ?_
             try go_wp2
             go_roundg k3
             case measure => have := HK1.out; have := HK2.out; have := HK3.out; omega
             case rel => exact ⟨(wrap64 (x13_3 + 1)), (x780000_3), (x780001_3), (.slice Ao64 x780001_3.length co64), reS, H', ⟨by have := HK1.out; have := HK2.out; have := HK3.out; omega⟩, ⟨by (with_reducible repeat (first | apply Kd.R_alloc | apply Kd.R_drewN | apply Kd.R_drew)); exact Kd.R_mono (Kd.R_far (p := ⟨g_0, 1, none⟩) (Kd.R_far (p := ⟨g_0, 0, none⟩) (Kd.R_types HO_7.out B_0.out (by decide)) (fun _ hk => hk.2) (.int .i64 t_0)) (fun _ hk => hk.2) (.slice Ao70 t_1.length co70)) (fun _ hk => hk.1.2)⟩, ⟨by (with_reducible repeat (first | apply Kd.R_alloc | apply Kd.R_drewN | apply Kd.R_drew)); exact Kd.R_mono (Kd.R_far (p := ⟨g_0, 1, none⟩) (Kd.R_far (p := ⟨g_0, 0, none⟩) (Kd.R_types HO_780001.out B_0.out (by decide)) (fun _ hk => hk.2) (.int .i64 t_0)) (fun _ hk => hk.2) (.slice Ao70 t_1.length co70)) (fun _ hk => hk.1.2)⟩, ⟨by (with_reducible repeat (first | refine Yb ?_ _ | refine Ya ?_ | refine Y9 ?_ _)); refine (Below.heap_setCell _ ⟨_, _, none⟩ _ _ N_1.out).trans ?_; (with_reducible repeat (first | refine Yb ?_ _ | refine Ya ?_ | refine Y9 ?_ _)); refine (Below.heap_setCell _ ⟨_, _, none⟩ _ _ N_1.out).trans ?_; (with_reducible repeat (first | refine Yb ?_ _ | refine Ya ?_ | refine Y9 ?_ _)); exact B_1.out⟩, ⟨by (with_reducible repeat (first | refine Yb ?_ _ | refine Ya ?_ | refine Y9 ?_ _)); refine (Below.heap_setCell _ ⟨_, _, none⟩ _ _ N_0.out).trans ?_; (with_reducible repeat (first | refine Yb ?_ _ | refine Ya ?_ | refine Y9 ?_ _)); refine (Below.heap_setCell _ ⟨_, _, none⟩ _ _ N_0.out).trans ?_; (with_reducible repeat (first | refine Yb ?_ _ | refine Ya ?_ | refine Y9 ?_ _)); exact B_2.out⟩, ⟨hU HB.out⟩⟩
            ·rw [if_neg c62] at H
             have c62b0 := bqF c62
             have c62b1 := bnT c62
             obtain ⟨c72, H⟩ := iS H
             have c72b0 := bqT c72
             have c72b1 := bnF c72
             clear c72
             obtain ⟨c73, H⟩ := iS H
             have c73b0 := bqT c73
             have c73b1 := bnF c73
             clear c73
             have H' := Y0.mk H
             clear H
             obtain ⟨Ao74, co74, eo74⟩ := Kd.R_slice HO_7.out
             subst eo74
             obtain ⟨Ao75, co75, eo75⟩ := Kd.R_slice HO_780001.out
             subst eo75
             try go_wp2
             replace HO_7 := Y0.mk (Kd.R_drew HO_7.out)
             replace HO_780001 := Y0.mk (Kd.R_drew HO_780001.out)
             replace B_1 := Y0.mk (Ya B_1.out)
             replace B_2 := Y0.mk (Ya B_2.out)
             replace HB := Y0.mk (YB HB.out)
             have p780 : 0 ≤ (x13_3 : Int) := of_decide_eq_true (by first | (with_reducible assumption) | assumption)
             have q780 : x13_3 < (x7_1.length : Int) := of_decide_eq_true (by first | (with_reducible assumption) | assumption)
             obtain ⟨d_0, e780, m_1, m_4, m_6, m_5, m_3, m_9, m_b, m_a, m_0, m_2, m_c, m_7, m_8⟩ := Y1i (Kd.R_reads' HO_7.out).2.2 x13_3 p780 q780
             cases e780
             replace p780 := eq_true p780
             replace q780 := eq_true q780
             refine Y19 (n := 12) (S := fun w' => w'.cell? ⟨g_1, 0, none⟩ = some (.int .i64 x780000_3) ∧ w'.cell? ⟨g_1, 1, none⟩ = some (.slice Ao75 x780001_3.length co75) ∧ w'.cell? (d_0.add ((x13_3).toNat * 13)) = some (.int .i64 ((Y7 x7_1 x13_3).f0.f0)) ∧ w'.cell? ⟨(d_0.add ((x13_3).toNat * 13)).block, (d_0.add ((x13_3).toNat * 13)).off + 1, none⟩ = some (.int .i64 ((Y7 x7_1 x13_3).f0.f1)) ∧ w'.cell? ⟨(d_0.add ((x13_3).toNat * 13)).block, (d_0.add ((x13_3).toNat * 13)).off + 2, none⟩ = some (.int .i64 ((Y7 x7_1 x13_3).f1)) ∧ w'.cell? ⟨(d_0.add ((x13_3).toNat * 13)).block, (d_0.add ((x13_3).toNat * 13)).off + 3, none⟩ = some (.int .i64 ((Y7 x7_1 x13_3).f2.f0)) ∧ w'.cell? ⟨(d_0.add ((x13_3).toNat * 13)).block, (d_0.add ((x13_3).toNat * 13)).off + 4, none⟩ = some (.int .i64 ((Y7 x7_1 x13_3).f2.f1)) ∧ w'.cell? ⟨(d_0.add ((x13_3).toNat * 13)).block, (d_0.add ((x13_3).toNat * 13)).off + 5, none⟩ = some (.bool ((Y7 x7_1 x13_3).f3)) ∧ w'.cell? ⟨(d_0.add ((x13_3).toNat * 13)).block, (d_0.add ((x13_3).toNat * 13)).off + 6, none⟩ = some (.int .i64 ((Y7 x7_1 x13_3).f4.f0)) ∧ w'.cell? ⟨(d_0.add ((x13_3).toNat * 13)).block, (d_0.add ((x13_3).toNat * 13)).off + 7, none⟩ = some (.int .i64 ((Y7 x7_1 x13_3).f4.f1)) ∧ w'.cell? ⟨(d_0.add ((x13_3).toNat * 13)).block, (d_0.add ((x13_3).toNat * 13)).off + 8, none⟩ = some (.int .i64 ((Y7 x7_1 x13_3).f4.f2)) ∧ w'.cell? ⟨(d_0.add ((x13_3).toNat * 13)).block, (d_0.add ((x13_3).toNat * 13)).off + 9, none⟩ = some (.int .i64 ((Y7 x7_1 x13_3).f4.f3)) ∧ w'.cell? ⟨(d_0.add ((x13_3).toNat * 13)).block, (d_0.add ((x13_3).toNat * 13)).off + 10, none⟩ = some (.int .i64 ((Y7 x7_1 x13_3).f4.f4)) ∧ w'.cell? ⟨(d_0.add ((x13_3).toNat * 13)).block, (d_0.add ((x13_3).toNat * 13)).off + 11, none⟩ = some (.int .i64 ((Y7 x7_1 x13_3).f4.f5)) ∧ w'.cell? ⟨(d_0.add ((x13_3).toNat * 13)).block, (d_0.add ((x13_3).toNat * 13)).off + 12, none⟩ = some (.int .i64 ((Y7 x7_1 x13_3).f4.f6))) (ds := []) #[false, false, false, false, false, false, false, false, false, false, false, false] (by kernel_rfl) rfl rfl ⟨(Y1 B_2.out 0).trans rfl, (Y1 B_2.out 1).trans rfl, m_1, m_4, m_6, m_5, m_3, m_9, m_b, m_a, m_0, m_2, m_c, m_7, m_8⟩ (fun hHeld => ?_); refine YZ Y4.tab22 Y4.bits22 (fun HT_ HW_ => ?_)
             generalize wr.drew = w76 at HO_7 HO_780001 B_1 B_2 HB m_1 m_4 m_c m_7 m_8 m_6 m_5 m_3 m_9 m_b m_a m_0 m_2 hHeld ⊢
             refine puA 1 85 (bs 12 2) ?_
             refine puA 2 86 (bs 12 6) ?_
             refine puA 3 87 (bs 12 14) ?_
             refine tkA 0 84 (bs 12 15) hHeld ?_
             refine tkA 4 88 (bs 12 31) hHeld ?_
             refine join_ (σ := Value × Nat) 2 #[true, true, true, true, true, true, true, true, true, true, false, false] (fun s_ => [(89, .tuple #[.agg #[.int .i64 t_0, s_.1], .int .i64 t_2]), (14, .pointer (some ⟨s_.2, 0, none⟩)), (83, .tuple #[.agg #[.int .i64 t_0, s_.1], .int .i64 t_2]), (90, .agg #[.int .i64 t_0, s_.1]), (91, .int .i64 t_2)]) (fun s_ w' => (w'.cell? ⟨g_1, 0, none⟩ = some (.int .i64 x780000_3) ∧ w'.cell? ⟨g_1, 1, none⟩ = some (.slice Ao75 x780001_3.length co75) ∧ w'.cell? (d_0.add ((x13_3).toNat * 13)) = some (.int .i64 ((Y7 x7_1 x13_3).f0.f0)) ∧ w'.cell? ⟨(d_0.add ((x13_3).toNat * 13)).block, (d_0.add ((x13_3).toNat * 13)).off + 1, none⟩ = some (.int .i64 ((Y7 x7_1 x13_3).f0.f1)) ∧ w'.cell? ⟨(d_0.add ((x13_3).toNat * 13)).block, (d_0.add ((x13_3).toNat * 13)).off + 2, none⟩ = some (.int .i64 ((Y7 x7_1 x13_3).f1)) ∧ w'.cell? ⟨(d_0.add ((x13_3).toNat * 13)).block, (d_0.add ((x13_3).toNat * 13)).off + 3, none⟩ = some (.int .i64 ((Y7 x7_1 x13_3).f2.f0)) ∧ w'.cell? ⟨(d_0.add ((x13_3).toNat * 13)).block, (d_0.add ((x13_3).toNat * 13)).off + 4, none⟩ = some (.int .i64 ((Y7 x7_1 x13_3).f2.f1)) ∧ w'.cell? ⟨(d_0.add ((x13_3).toNat * 13)).block, (d_0.add ((x13_3).toNat * 13)).off + 5, none⟩ = some (.bool ((Y7 x7_1 x13_3).f3)) ∧ w'.cell? ⟨(d_0.add ((x13_3).toNat * 13)).block, (d_0.add ((x13_3).toNat * 13)).off + 6, none⟩ = some (.int .i64 ((Y7 x7_1 x13_3).f4.f0)) ∧ w'.cell? ⟨(d_0.add ((x13_3).toNat * 13)).block, (d_0.add ((x13_3).toNat * 13)).off + 7, none⟩ = some (.int .i64 ((Y7 x7_1 x13_3).f4.f1)) ∧ w'.cell? ⟨(d_0.add ((x13_3).toNat * 13)).block, (d_0.add ((x13_3).toNat * 13)).off + 8, none⟩ = some (.int .i64 ((Y7 x7_1 x13_3).f4.f2)) ∧ w'.cell? ⟨(d_0.add ((x13_3).toNat * 13)).block, (d_0.add ((x13_3).toNat * 13)).off + 9, none⟩ = some (.int .i64 ((Y7 x7_1 x13_3).f4.f3)) ∧ w'.cell? ⟨(d_0.add ((x13_3).toNat * 13)).block, (d_0.add ((x13_3).toNat * 13)).off + 10, none⟩ = some (.int .i64 ((Y7 x7_1 x13_3).f4.f4)) ∧ w'.cell? ⟨(d_0.add ((x13_3).toNat * 13)).block, (d_0.add ((x13_3).toNat * 13)).off + 11, none⟩ = some (.int .i64 ((Y7 x7_1 x13_3).f4.f5)) ∧ w'.cell? ⟨(d_0.add ((x13_3).toNat * 13)).block, (d_0.add ((x13_3).toNat * 13)).off + 12, none⟩ = some (.int .i64 ((Y7 x7_1 x13_3).f4.f6))) ∧ (Kd.R k30 30 w' w.heap.size (fun k_ => some k_ ≠ (.slice (some d_0) x7_1.length co74 : Value).ownBlock ∧ some k_ ≠ (.slice Ao75 x780001_3.length co75 : Value).ownBlock) s_.1 t_1) ∧ (Kd.R k30 30 w' w.heap.size (fun k_ => some k_ ≠ (s_.1 : Value).ownBlock ∧ some k_ ≠ (.slice Ao75 x780001_3.length co75 : Value).ownBlock) (.slice (some d_0) x7_1.length co74) x7_1) ∧ (Kd.R k30 30 w' w.heap.size (fun k_ => some k_ ≠ (s_.1 : Value).ownBlock ∧ some k_ ≠ (.slice (some d_0) x7_1.length co74 : Value).ownBlock) (.slice Ao75 x780001_3.length co75) x780001_3) ∧ (w'.heap[g_2]? = some (.cells #[.int .i64 a0_0, .slice A0_1 l0_1.length c0_1] 24 (0, 0))) ∧ (w'.heap[g_1]? = some (.cells #[.int .i64 x780000_3, .slice Ao75 x780001_3.length co75] 24 (0, 0))) ∧ (w'.heap[s_.2]? = some (.cells #[.int .i64 0, .slice none 0 0] 24 (0, 0))) ∧ (w.heap.size ≤ s_.2) ∧ (w.heap.size ≤ s_.2) ∧ (g_2 ≠ s_.2) ∧ (s_.2 ≠ g_2) ∧ (g_1 ≠ s_.2) ∧ (s_.2 ≠ g_1) ∧ (Below w.heap.size w w')) ?_ ?_
             rotate_left
             ·intro hCont
              refine two_ (i := 5) (j := 9) (Ni := some 89) (Nj := some 14) #[true, true, true, true, true, true, false, false, false, false, false, false] #[true, true, true, true, true, false, false, false, false, true, false, false] rfl rfl rfl rfl (Y1l HT_.out (by kernel_rfl)) (by decide) (by decide) (fun K hK => ?_) (fun K hK => ?_)
              ·skip
               refine goes_ Try.func19 (by kernel_rfl) rfl #[.agg #[.int .i64 x780000_3, .slice Ao75 x780001_3.length co75], .agg #[.int .i64 ((Y7 x7_1 x13_3).f0.f0), .int .i64 ((Y7 x7_1 x13_3).f0.f1), .int .i64 ((Y7 x7_1 x13_3).f1), .int .i64 ((Y7 x7_1 x13_3).f2.f0), .int .i64 ((Y7 x7_1 x13_3).f2.f1), .bool ((Y7 x7_1 x13_3).f3), .int .i64 ((Y7 x7_1 x13_3).f4.f0), .int .i64 ((Y7 x7_1 x13_3).f4.f1), .int .i64 ((Y7 x7_1 x13_3).f4.f2), .int .i64 ((Y7 x7_1 x13_3).f4.f3), .int .i64 ((Y7 x7_1 x13_3).f4.f4), .int .i64 ((Y7 x7_1 x13_3).f4.f5), .int .i64 ((Y7 x7_1 x13_3).f4.f6)]] (by rfl) rfl rfl (by (try simp only [List.map_toArray, List.map_cons, List.map_nil]); first | done | rfl | (simp only [List.length_drop, List.length_take]; rfl)) ?_
               with_reducible refine (Yt.calls x780000_3 _ _ x780001_3 ((Y7 x7_1 x13_3).f0.f0) ((Y7 x7_1 x13_3).f0.f1) ((Y7 x7_1 x13_3).f1) ((Y7 x7_1 x13_3).f2.f0) ((Y7 x7_1 x13_3).f2.f1) ((Y7 x7_1 x13_3).f3) ((Y7 x7_1 x13_3).f4.f0) ((Y7 x7_1 x13_3).f4.f1) ((Y7 x7_1 x13_3).f4.f2) ((Y7 x7_1 x13_3).f4.f3) ((Y7 x7_1 x13_3).f4.f4) ((Y7 x7_1 x13_3).f4.f5) ((Y7 x7_1 x13_3).f4.f6) t_0 t_1 t_2 _ ?side1 ?side2 A61.out).mono ?_
               (case side1 => repeat (first | exact (Kd.R_reads' HO_780001.out).2.2 | (with_reducible refine Kd.C_alloc ?_ _) | (with_reducible refine Kd.C_drewN ?_ _) | (with_reducible refine Kd.C_drew ?_)))
               (case side2 => exact (Kd.R_reads' HO_780001.out).2.1)
               rintro e w77 ⟨v_0, rfl, ho0, hb⟩
               have HS2_ := (hb.cell (World.block_lt_of_cell? _ _ (hHeld.2.2.1))).trans (hHeld.2.2.1)
               have HS3_ := (hb.cell (World.block_lt_of_cell? _ _ (hHeld.2.2.2.1))).trans (hHeld.2.2.2.1)
               have HS4_ := (hb.cell (World.block_lt_of_cell? _ _ (hHeld.2.2.2.2.1))).trans (hHeld.2.2.2.2.1)
               have HS5_ := (hb.cell (World.block_lt_of_cell? _ _ (hHeld.2.2.2.2.2.1))).trans (hHeld.2.2.2.2.2.1)
               have HS6_ := (hb.cell (World.block_lt_of_cell? _ _ (hHeld.2.2.2.2.2.2.1))).trans (hHeld.2.2.2.2.2.2.1)
               have HS7_ := (hb.cell (World.block_lt_of_cell? _ _ (hHeld.2.2.2.2.2.2.2.1))).trans (hHeld.2.2.2.2.2.2.2.1)
               have HS8_ := (hb.cell (World.block_lt_of_cell? _ _ (hHeld.2.2.2.2.2.2.2.2.1))).trans (hHeld.2.2.2.2.2.2.2.2.1)
               have HS9_ := (hb.cell (World.block_lt_of_cell? _ _ (hHeld.2.2.2.2.2.2.2.2.2.1))).trans (hHeld.2.2.2.2.2.2.2.2.2.1)
               have HS10_ := (hb.cell (World.block_lt_of_cell? _ _ (hHeld.2.2.2.2.2.2.2.2.2.2.1))).trans (hHeld.2.2.2.2.2.2.2.2.2.2.1)
               have HS11_ := (hb.cell (World.block_lt_of_cell? _ _ (hHeld.2.2.2.2.2.2.2.2.2.2.2.1))).trans (hHeld.2.2.2.2.2.2.2.2.2.2.2.1)
               have HS12_ := (hb.cell (World.block_lt_of_cell? _ _ (hHeld.2.2.2.2.2.2.2.2.2.2.2.2.1))).trans (hHeld.2.2.2.2.2.2.2.2.2.2.2.2.1)
               have HS13_ := (hb.cell (World.block_lt_of_cell? _ _ (hHeld.2.2.2.2.2.2.2.2.2.2.2.2.2.1))).trans (hHeld.2.2.2.2.2.2.2.2.2.2.2.2.2.1)
               have HS14_ := (hb.cell (World.block_lt_of_cell? _ _ (hHeld.2.2.2.2.2.2.2.2.2.2.2.2.2.2))).trans (hHeld.2.2.2.2.2.2.2.2.2.2.2.2.2.2)
               refine ⟨_, rfl, ?_⟩
               replace O_0 := Y0.mk (Kd.R_lower (Kd.R_new' (Kd.R_new' ho0 (Kd.R_lt (Kd.rU HO_7.out))) (Kd.R_lt (Kd.rU HO_780001.out))) (Yi (hU HB.out)))
               replace HO_7 := Y0.mk (Kd.R_elder' (Kd.rU HO_7.out) (Kd.R_base ho0) hb)
               replace HO_780001 := Y0.mk (Kd.R_elder' (Kd.rU HO_780001.out) (Kd.R_base ho0) hb)
               replace B_1 := Y0.mk (Y3 (bU B_1.out) hb)
               replace B_2 := Y0.mk (Y3 (bU B_2.out) hb)
               replace HB := Y0.mk (Y5 (hU HB.out) hb)
               (try clear hb)
               (try clear hb2)
               (try clear hk)
               (try clear hi)
               (try clear ho0)
               refine hK.out _ _ ⟨(Y1 B_2.out 0).trans rfl, (Y1 B_2.out 1).trans rfl, HS2_, HS3_, HS4_, HS5_, HS6_, HS7_, HS8_, HS9_, HS10_, HS11_, HS12_, HS13_, HS14_⟩ (fun hHeld => ?_)
               clear hK K
               refine nmA 89 ?_
               refine puA 6 83 (bs 12 127) ?_
               refine puA 7 90 (bs 12 255) ?_
               refine puA 8 91 (bs 12 511) ?_
               refine one_ (i := 9) (N := some 14) (bs 12 1023) rfl rfl (YF HT_.out (by kernel_rfl)) (by decide) (fun K hK => ?_)
               refine YJ ?hg (N := 14) ?hd (cs := #[.int .i64 0, .slice none 0 0]) (t := 24) ?hr ?_; (case hd => rfl); (case hg => rfl); (case hr => first | (go_simp; done) | (go_simp; rfl))
               intro g_0 hg w78 hbox hb
               have HS2_ := (hb.cell (World.block_lt_of_cell? _ _ (hHeld.2.2.1))).trans (hHeld.2.2.1)
               have HS3_ := (hb.cell (World.block_lt_of_cell? _ _ (hHeld.2.2.2.1))).trans (hHeld.2.2.2.1)
               have HS4_ := (hb.cell (World.block_lt_of_cell? _ _ (hHeld.2.2.2.2.1))).trans (hHeld.2.2.2.2.1)
               have HS5_ := (hb.cell (World.block_lt_of_cell? _ _ (hHeld.2.2.2.2.2.1))).trans (hHeld.2.2.2.2.2.1)
               have HS6_ := (hb.cell (World.block_lt_of_cell? _ _ (hHeld.2.2.2.2.2.2.1))).trans (hHeld.2.2.2.2.2.2.1)
               have HS7_ := (hb.cell (World.block_lt_of_cell? _ _ (hHeld.2.2.2.2.2.2.2.1))).trans (hHeld.2.2.2.2.2.2.2.1)
               have HS8_ := (hb.cell (World.block_lt_of_cell? _ _ (hHeld.2.2.2.2.2.2.2.2.1))).trans (hHeld.2.2.2.2.2.2.2.2.1)
               have HS9_ := (hb.cell (World.block_lt_of_cell? _ _ (hHeld.2.2.2.2.2.2.2.2.2.1))).trans (hHeld.2.2.2.2.2.2.2.2.2.1)
               have HS10_ := (hb.cell (World.block_lt_of_cell? _ _ (hHeld.2.2.2.2.2.2.2.2.2.2.1))).trans (hHeld.2.2.2.2.2.2.2.2.2.2.1)
               have HS11_ := (hb.cell (World.block_lt_of_cell? _ _ (hHeld.2.2.2.2.2.2.2.2.2.2.2.1))).trans (hHeld.2.2.2.2.2.2.2.2.2.2.2.1)
               have HS12_ := (hb.cell (World.block_lt_of_cell? _ _ (hHeld.2.2.2.2.2.2.2.2.2.2.2.2.1))).trans (hHeld.2.2.2.2.2.2.2.2.2.2.2.2.1)
               have HS13_ := (hb.cell (World.block_lt_of_cell? _ _ (hHeld.2.2.2.2.2.2.2.2.2.2.2.2.2.1))).trans (hHeld.2.2.2.2.2.2.2.2.2.2.2.2.2.1)
               have HS14_ := (hb.cell (World.block_lt_of_cell? _ _ (hHeld.2.2.2.2.2.2.2.2.2.2.2.2.2.2))).trans (hHeld.2.2.2.2.2.2.2.2.2.2.2.2.2.2)
               have n0_ := Y0.mk (Kd.R_below (Kd.rU HO_7.out) hb)
               have n1_ := Y0.mk (Kd.R_below (Kd.rU HO_780001.out) hb)
               have n2_ := Y0.mk (Kd.R_below (Kd.rU O_0.out) hb)
               have n3_ := Y0.mk (Y3 (bU B_1.out) hb)
               have n4_ := Y0.mk (Y3 (bU B_2.out) hb)
               have n5_ := Y0.mk (Y5 (hU HB.out) hb)
               have n6_ := Y0.mk (hbox)
               have n7_ := gE hg HB
               have n8_ := gE hg HB
               have n9_ := gL hg B_1
               have n10_ := gG hg B_1
               have n11_ := gL hg B_2
               have n12_ := gG hg B_2
               clear HO_7
               clear HO_780001
               clear O_0
               clear B_1
               clear B_2
               clear HB
               have HO_7 := n0_
               have HO_780001 := n1_
               have O_0 := n2_
               have B_1 := n3_
               have B_2 := n4_
               have HB := n5_
               have B_0 := n6_
               have W_0 := n7_
               have G_0 := n8_
               have N_1 := n9_
               have N_2 := n10_
               have N_0 := n11_
               have N_3 := n12_
               clear n0_ n1_ n2_ n3_ n4_ n5_ n6_ n7_ n8_ n9_ n10_ n11_ n12_
               clear hb hbox hg
               refine hK.out _ _ ⟨(Y1 B_2.out 0).trans rfl, (Y1 B_2.out 1).trans rfl, HS2_, HS3_, HS4_, HS5_, HS6_, HS7_, HS8_, HS9_, HS10_, HS11_, HS12_, HS13_, HS14_⟩ (fun hHeld => ?_)
               clear hK K
               refine nmA 14 ?_
               exact norm_ (by simp only [YA, Act.put, List.setIfInBounds_toArray, List.set_cons_zero, List.set_cons_succ]) (hCont (v_0, g_0) _ ⟨hHeld, (by (with_reducible repeat (first | apply Kd.R_alloc | apply Kd.R_drewN | apply Kd.R_drew)); exact Kd.R_mono O_0.out (fun _ hk => by revert hk; simp only [and_imp]; intros; (repeat' apply And.intro) <;> assumption)), (by (with_reducible repeat (first | apply Kd.R_alloc | apply Kd.R_drewN | apply Kd.R_drew)); exact Kd.R_mono HO_7.out (fun _ hk => by revert hk; simp only [and_imp]; intros; (repeat' apply And.intro) <;> assumption)), (by (with_reducible repeat (first | apply Kd.R_alloc | apply Kd.R_drewN | apply Kd.R_drew)); exact Kd.R_mono HO_780001.out (fun _ hk => by revert hk; simp only [and_imp]; intros; (repeat' apply And.intro) <;> assumption)), (bU B_1.out), (bU B_2.out), (bU B_0.out), W_0.out, G_0.out, N_1.out, N_2.out, N_0.out, N_3.out, (hU HB.out)⟩)
              ·skip
               refine YJ ?hg (N := 14) ?hd (cs := #[.int .i64 0, .slice none 0 0]) (t := 24) ?hr ?_; (case hd => rfl); (case hg => rfl); (case hr => first | (go_simp; done) | (go_simp; rfl))
               intro g_0 hg w77 hbox hb
               have HS2_ := (hb.cell (World.block_lt_of_cell? _ _ (hHeld.2.2.1))).trans (hHeld.2.2.1)
               have HS3_ := (hb.cell (World.block_lt_of_cell? _ _ (hHeld.2.2.2.1))).trans (hHeld.2.2.2.1)
               have HS4_ := (hb.cell (World.block_lt_of_cell? _ _ (hHeld.2.2.2.2.1))).trans (hHeld.2.2.2.2.1)
               have HS5_ := (hb.cell (World.block_lt_of_cell? _ _ (hHeld.2.2.2.2.2.1))).trans (hHeld.2.2.2.2.2.1)
               have HS6_ := (hb.cell (World.block_lt_of_cell? _ _ (hHeld.2.2.2.2.2.2.1))).trans (hHeld.2.2.2.2.2.2.1)
               have HS7_ := (hb.cell (World.block_lt_of_cell? _ _ (hHeld.2.2.2.2.2.2.2.1))).trans (hHeld.2.2.2.2.2.2.2.1)
               have HS8_ := (hb.cell (World.block_lt_of_cell? _ _ (hHeld.2.2.2.2.2.2.2.2.1))).trans (hHeld.2.2.2.2.2.2.2.2.1)
               have HS9_ := (hb.cell (World.block_lt_of_cell? _ _ (hHeld.2.2.2.2.2.2.2.2.2.1))).trans (hHeld.2.2.2.2.2.2.2.2.2.1)
               have HS10_ := (hb.cell (World.block_lt_of_cell? _ _ (hHeld.2.2.2.2.2.2.2.2.2.2.1))).trans (hHeld.2.2.2.2.2.2.2.2.2.2.1)
               have HS11_ := (hb.cell (World.block_lt_of_cell? _ _ (hHeld.2.2.2.2.2.2.2.2.2.2.2.1))).trans (hHeld.2.2.2.2.2.2.2.2.2.2.2.1)
               have HS12_ := (hb.cell (World.block_lt_of_cell? _ _ (hHeld.2.2.2.2.2.2.2.2.2.2.2.2.1))).trans (hHeld.2.2.2.2.2.2.2.2.2.2.2.2.1)
               have HS13_ := (hb.cell (World.block_lt_of_cell? _ _ (hHeld.2.2.2.2.2.2.2.2.2.2.2.2.2.1))).trans (hHeld.2.2.2.2.2.2.2.2.2.2.2.2.2.1)
               have HS14_ := (hb.cell (World.block_lt_of_cell? _ _ (hHeld.2.2.2.2.2.2.2.2.2.2.2.2.2.2))).trans (hHeld.2.2.2.2.2.2.2.2.2.2.2.2.2.2)
               have n0_ := Y0.mk (Kd.R_below (Kd.rU HO_7.out) hb)
               have n1_ := Y0.mk (Kd.R_below (Kd.rU HO_780001.out) hb)
               have n2_ := Y0.mk (Y3 (bU B_1.out) hb)
               have n3_ := Y0.mk (Y3 (bU B_2.out) hb)
               have n4_ := Y0.mk (Y5 (hU HB.out) hb)
               have n5_ := Y0.mk (hbox)
               have n6_ := gE hg HB
               have n7_ := gE hg HB
               have n8_ := gL hg B_1
               have n9_ := gG hg B_1
               have n10_ := gL hg B_2
               have n11_ := gG hg B_2
               clear HO_7
               clear HO_780001
               clear B_1
               clear B_2
               clear HB
               have HO_7 := n0_
               have HO_780001 := n1_
               have B_1 := n2_
               have B_2 := n3_
               have HB := n4_
               have B_0 := n5_
               have W_0 := n6_
               have G_0 := n7_
               have N_1 := n8_
               have N_2 := n9_
               have N_0 := n10_
               have N_3 := n11_
               clear n0_ n1_ n2_ n3_ n4_ n5_ n6_ n7_ n8_ n9_ n10_ n11_
               clear hb hbox hg
               refine hK.out _ _ ⟨(Y1 B_2.out 0).trans rfl, (Y1 B_2.out 1).trans rfl, HS2_, HS3_, HS4_, HS5_, HS6_, HS7_, HS8_, HS9_, HS10_, HS11_, HS12_, HS13_, HS14_⟩ (fun hHeld => ?_)
               clear hK K
               refine nmA 14 ?_
               refine one_ (i := 5) (N := some 89) (bs 12 575) rfl rfl (YF HT_.out (by kernel_rfl)) (by decide) (fun K hK => ?_)
               refine goes_ Try.func19 (by kernel_rfl) rfl #[.agg #[.int .i64 x780000_3, .slice Ao75 x780001_3.length co75], .agg #[.int .i64 ((Y7 x7_1 x13_3).f0.f0), .int .i64 ((Y7 x7_1 x13_3).f0.f1), .int .i64 ((Y7 x7_1 x13_3).f1), .int .i64 ((Y7 x7_1 x13_3).f2.f0), .int .i64 ((Y7 x7_1 x13_3).f2.f1), .bool ((Y7 x7_1 x13_3).f3), .int .i64 ((Y7 x7_1 x13_3).f4.f0), .int .i64 ((Y7 x7_1 x13_3).f4.f1), .int .i64 ((Y7 x7_1 x13_3).f4.f2), .int .i64 ((Y7 x7_1 x13_3).f4.f3), .int .i64 ((Y7 x7_1 x13_3).f4.f4), .int .i64 ((Y7 x7_1 x13_3).f4.f5), .int .i64 ((Y7 x7_1 x13_3).f4.f6)]] (by rfl) rfl rfl (by (try simp only [List.map_toArray, List.map_cons, List.map_nil]); first | done | rfl | (simp only [List.length_drop, List.length_take]; rfl)) ?_
               with_reducible refine (Yt.calls x780000_3 _ _ x780001_3 ((Y7 x7_1 x13_3).f0.f0) ((Y7 x7_1 x13_3).f0.f1) ((Y7 x7_1 x13_3).f1) ((Y7 x7_1 x13_3).f2.f0) ((Y7 x7_1 x13_3).f2.f1) ((Y7 x7_1 x13_3).f3) ((Y7 x7_1 x13_3).f4.f0) ((Y7 x7_1 x13_3).f4.f1) ((Y7 x7_1 x13_3).f4.f2) ((Y7 x7_1 x13_3).f4.f3) ((Y7 x7_1 x13_3).f4.f4) ((Y7 x7_1 x13_3).f4.f5) ((Y7 x7_1 x13_3).f4.f6) t_0 t_1 t_2 _ ?side1 ?side2 A61.out).mono ?_
               (case side1 => repeat (first | exact (Kd.R_reads' HO_780001.out).2.2 | (with_reducible refine Kd.C_alloc ?_ _) | (with_reducible refine Kd.C_drewN ?_ _) | (with_reducible refine Kd.C_drew ?_)))
               (case side2 => exact (Kd.R_reads' HO_780001.out).2.1)
               rintro e w78 ⟨v_0, rfl, ho0, hb⟩
               have HS2_ := (hb.cell (World.block_lt_of_cell? _ _ (hHeld.2.2.1))).trans (hHeld.2.2.1)
               have HS3_ := (hb.cell (World.block_lt_of_cell? _ _ (hHeld.2.2.2.1))).trans (hHeld.2.2.2.1)
               have HS4_ := (hb.cell (World.block_lt_of_cell? _ _ (hHeld.2.2.2.2.1))).trans (hHeld.2.2.2.2.1)
               have HS5_ := (hb.cell (World.block_lt_of_cell? _ _ (hHeld.2.2.2.2.2.1))).trans (hHeld.2.2.2.2.2.1)
               have HS6_ := (hb.cell (World.block_lt_of_cell? _ _ (hHeld.2.2.2.2.2.2.1))).trans (hHeld.2.2.2.2.2.2.1)
               have HS7_ := (hb.cell (World.block_lt_of_cell? _ _ (hHeld.2.2.2.2.2.2.2.1))).trans (hHeld.2.2.2.2.2.2.2.1)
               have HS8_ := (hb.cell (World.block_lt_of_cell? _ _ (hHeld.2.2.2.2.2.2.2.2.1))).trans (hHeld.2.2.2.2.2.2.2.2.1)
               have HS9_ := (hb.cell (World.block_lt_of_cell? _ _ (hHeld.2.2.2.2.2.2.2.2.2.1))).trans (hHeld.2.2.2.2.2.2.2.2.2.1)
               have HS10_ := (hb.cell (World.block_lt_of_cell? _ _ (hHeld.2.2.2.2.2.2.2.2.2.2.1))).trans (hHeld.2.2.2.2.2.2.2.2.2.2.1)
               have HS11_ := (hb.cell (World.block_lt_of_cell? _ _ (hHeld.2.2.2.2.2.2.2.2.2.2.2.1))).trans (hHeld.2.2.2.2.2.2.2.2.2.2.2.1)
               have HS12_ := (hb.cell (World.block_lt_of_cell? _ _ (hHeld.2.2.2.2.2.2.2.2.2.2.2.2.1))).trans (hHeld.2.2.2.2.2.2.2.2.2.2.2.2.1)
               have HS13_ := (hb.cell (World.block_lt_of_cell? _ _ (hHeld.2.2.2.2.2.2.2.2.2.2.2.2.2.1))).trans (hHeld.2.2.2.2.2.2.2.2.2.2.2.2.2.1)
               have HS14_ := (hb.cell (World.block_lt_of_cell? _ _ (hHeld.2.2.2.2.2.2.2.2.2.2.2.2.2.2))).trans (hHeld.2.2.2.2.2.2.2.2.2.2.2.2.2.2)
               refine ⟨_, rfl, ?_⟩
               replace O_0 := Y0.mk (Kd.R_lower (Kd.R_new' (Kd.R_new' ho0 (Kd.R_lt (Kd.rU HO_7.out))) (Kd.R_lt (Kd.rU HO_780001.out))) (Yi (hU HB.out)))
               replace HO_7 := Y0.mk (Kd.R_elder' (Kd.rU HO_7.out) (Kd.R_base ho0) hb)
               replace HO_780001 := Y0.mk (Kd.R_elder' (Kd.rU HO_780001.out) (Kd.R_base ho0) hb)
               replace B_1 := Y0.mk (Y3 (bU B_1.out) hb)
               replace B_2 := Y0.mk (Y3 (bU B_2.out) hb)
               replace B_0 := Y0.mk (Y3 (bU B_0.out) hb)
               replace HB := Y0.mk (Y5 (hU HB.out) hb)
               (try clear hb)
               (try clear hb2)
               (try clear hk)
               (try clear hi)
               (try clear ho0)
               refine hK.out _ _ ⟨(Y1 B_2.out 0).trans rfl, (Y1 B_2.out 1).trans rfl, HS2_, HS3_, HS4_, HS5_, HS6_, HS7_, HS8_, HS9_, HS10_, HS11_, HS12_, HS13_, HS14_⟩ (fun hHeld => ?_)
               clear hK K
               refine nmA 89 ?_
               refine puA 6 83 (bs 12 639) ?_
               refine puA 7 90 (bs 12 767) ?_
               refine puA 8 91 (bs 12 1023) ?_
               exact norm_ (by simp only [YA, Act.put, List.setIfInBounds_toArray, List.set_cons_zero, List.set_cons_succ]) (hCont (v_0, g_0) _ ⟨hHeld, (by (with_reducible repeat (first | apply Kd.R_alloc | apply Kd.R_drewN | apply Kd.R_drew)); exact Kd.R_mono O_0.out (fun _ hk => by revert hk; simp only [and_imp]; intros; (repeat' apply And.intro) <;> assumption)), (by (with_reducible repeat (first | apply Kd.R_alloc | apply Kd.R_drewN | apply Kd.R_drew)); exact Kd.R_mono HO_7.out (fun _ hk => by revert hk; simp only [and_imp]; intros; (repeat' apply And.intro) <;> assumption)), (by (with_reducible repeat (first | apply Kd.R_alloc | apply Kd.R_drewN | apply Kd.R_drew)); exact Kd.R_mono HO_780001.out (fun _ hk => by revert hk; simp only [and_imp]; intros; (repeat' apply And.intro) <;> assumption)), (bU B_1.out), (bU B_2.out), (bU B_0.out), W_0.out, G_0.out, N_1.out, N_2.out, N_0.out, N_3.out, (hU HB.out)⟩)
             rintro ⟨v_0, g_0⟩ w79 ⟨hS_, h0_, h1_, h2_, h3_, h4_, h5_, h6_, h7_, h8_, h9_, h10_, h11_, h12_⟩
             have n0_ : Y0 (Kd.R k30 30 w79 w.heap.size (fun k_ => some k_ ≠ (.slice (some d_0) x7_1.length co74 : Value).ownBlock ∧ some k_ ≠ (.slice Ao75 x780001_3.length co75 : Value).ownBlock) v_0 t_1) := ⟨h0_⟩
             have n1_ : Y0 (Kd.R k30 30 w79 w.heap.size (fun k_ => some k_ ≠ (v_0 : Value).ownBlock ∧ some k_ ≠ (.slice Ao75 x780001_3.length co75 : Value).ownBlock) (.slice (some d_0) x7_1.length co74) x7_1) := ⟨h1_⟩
             have n2_ : Y0 (Kd.R k30 30 w79 w.heap.size (fun k_ => some k_ ≠ (v_0 : Value).ownBlock ∧ some k_ ≠ (.slice (some d_0) x7_1.length co74 : Value).ownBlock) (.slice Ao75 x780001_3.length co75) x780001_3) := ⟨h2_⟩
             have n3_ : Y0 (w79.heap[g_2]? = some (.cells #[.int .i64 a0_0, .slice A0_1 l0_1.length c0_1] 24 (0, 0))) := ⟨h3_⟩
             have n4_ : Y0 (w79.heap[g_1]? = some (.cells #[.int .i64 x780000_3, .slice Ao75 x780001_3.length co75] 24 (0, 0))) := ⟨h4_⟩
             have n5_ : Y0 (w79.heap[g_0]? = some (.cells #[.int .i64 0, .slice none 0 0] 24 (0, 0))) := ⟨h5_⟩
             have n6_ : Y0 (w.heap.size ≤ g_0) := ⟨h6_⟩
             have n7_ : Y0 (w.heap.size ≤ g_0) := ⟨h7_⟩
             have n8_ : Y0 (g_2 ≠ g_0) := ⟨h8_⟩
             have n9_ : Y0 (g_0 ≠ g_2) := ⟨h9_⟩
             have n10_ : Y0 (g_1 ≠ g_0) := ⟨h10_⟩
             have n11_ : Y0 (g_0 ≠ g_1) := ⟨h11_⟩
             have n12_ : Y0 (Below w.heap.size w w79) := ⟨h12_⟩
             clear HO_7
             clear HO_780001
             clear B_1
             clear B_2
             clear HB
             clear h0_ h1_ h2_ h3_ h4_ h5_ h6_ h7_ h8_ h9_ h10_ h11_ h12_
             have O_0 := n0_
             have HO_7 := n1_
             have HO_780001 := n2_
             have B_1 := n3_
             have B_2 := n4_
             have B_0 := n5_
             have W_0 := n6_
             have G_0 := n7_
             have N_1 := n8_
             have N_2 := n9_
             have N_0 := n10_
             have N_3 := n11_
             have HB := n12_
             clear n0_ n1_ n2_ n3_ n4_ n5_ n6_ n7_ n8_ n9_ n10_ n11_ n12_
             have hHeld : w79.cell? ⟨g_1, 0, none⟩ = some (.int .i64 x780000_3) ∧ w79.cell? ⟨g_1, 1, none⟩ = some (.slice Ao75 x780001_3.length co75) ∧ w79.cell? (d_0.add ((x13_3).toNat * 13)) = some (.int .i64 ((Y7 x7_1 x13_3).f0.f0)) ∧ w79.cell? ⟨(d_0.add ((x13_3).toNat * 13)).block, (d_0.add ((x13_3).toNat * 13)).off + 1, none⟩ = some (.int .i64 ((Y7 x7_1 x13_3).f0.f1)) ∧ w79.cell? ⟨(d_0.add ((x13_3).toNat * 13)).block, (d_0.add ((x13_3).toNat * 13)).off + 2, none⟩ = some (.int .i64 ((Y7 x7_1 x13_3).f1)) ∧ w79.cell? ⟨(d_0.add ((x13_3).toNat * 13)).block, (d_0.add ((x13_3).toNat * 13)).off + 3, none⟩ = some (.int .i64 ((Y7 x7_1 x13_3).f2.f0)) ∧ w79.cell? ⟨(d_0.add ((x13_3).toNat * 13)).block, (d_0.add ((x13_3).toNat * 13)).off + 4, none⟩ = some (.int .i64 ((Y7 x7_1 x13_3).f2.f1)) ∧ w79.cell? ⟨(d_0.add ((x13_3).toNat * 13)).block, (d_0.add ((x13_3).toNat * 13)).off + 5, none⟩ = some (.bool ((Y7 x7_1 x13_3).f3)) ∧ w79.cell? ⟨(d_0.add ((x13_3).toNat * 13)).block, (d_0.add ((x13_3).toNat * 13)).off + 6, none⟩ = some (.int .i64 ((Y7 x7_1 x13_3).f4.f0)) ∧ w79.cell? ⟨(d_0.add ((x13_3).toNat * 13)).block, (d_0.add ((x13_3).toNat * 13)).off + 7, none⟩ = some (.int .i64 ((Y7 x7_1 x13_3).f4.f1)) ∧ w79.cell? ⟨(d_0.add ((x13_3).toNat * 13)).block, (d_0.add ((x13_3).toNat * 13)).off + 8, none⟩ = some (.int .i64 ((Y7 x7_1 x13_3).f4.f2)) ∧ w79.cell? ⟨(d_0.add ((x13_3).toNat * 13)).block, (d_0.add ((x13_3).toNat * 13)).off + 9, none⟩ = some (.int .i64 ((Y7 x7_1 x13_3).f4.f3)) ∧ w79.cell? ⟨(d_0.add ((x13_3).toNat * 13)).block, (d_0.add ((x13_3).toNat * 13)).off + 10, none⟩ = some (.int .i64 ((Y7 x7_1 x13_3).f4.f4)) ∧ w79.cell? ⟨(d_0.add ((x13_3).toNat * 13)).block, (d_0.add ((x13_3).toNat * 13)).off + 11, none⟩ = some (.int .i64 ((Y7 x7_1 x13_3).f4.f5)) ∧ w79.cell? ⟨(d_0.add ((x13_3).toNat * 13)).block, (d_0.add ((x13_3).toNat * 13)).off + 12, none⟩ = some (.int .i64 ((Y7 x7_1 x13_3).f4.f6)) := hS_
             obtain ⟨Ao81, co81, eo81⟩ := Kd.R_slice O_0.out
             (first | subst eo81 | (injection eo81 with f1_ f2_ f3_; have f4_ := f1_.symm; have f5_ := f3_.symm; clear f1_ f2_ f3_; subst f4_; subst f5_))
             refine norm_ (a' := ?_) ?_ ?_
             rotate_left
             ·simp only [YA, Act.put, List.setIfInBounds_toArray, List.set_cons_zero, List.set_cons_succ]
              rfl
             refine one_ (i := 10) (N := none) #[true, true, true, true, true, true, true, true, true, true, true, false] rfl rfl (YF HT_.out (by kernel_rfl)) (by decide) (fun K hK => ?_)
             have hs80 : w79.cell? ⟨g_0, 0, none⟩ = some (.int .i64 0) := (Y1 B_0.out 0).trans rfl
             have hfs80 := Y6 B_0.out 0
             have hns80_0 := N_1.out
             have hns80_1 := N_0.out
             have hms80_0 := N_2.out
             have hms80_1 := N_3.out
             have hs82 : w79.cell? ⟨g_0, 1, none⟩ = some (.slice none 0 0) := (Y1 B_0.out 1).trans rfl
             have hfs82 := Y6 B_0.out 1
             have hns82_0 := N_1.out
             have hns82_1 := N_0.out
             have hms82_0 := N_2.out
             have hms82_1 := N_3.out
             refine skip_ (w1 := ?_) (by rfl) rfl ?_ ?_
             rotate_left
             ·go_simp
              rfl
             refine hK.out _ _ ⟨((Yk (p := ⟨g_0, _, none⟩) N_0.out _).trans (((Yk (p := ⟨g_0, _, none⟩) N_0.out _).trans (hHeld.1)))), ((Yk (p := ⟨g_0, _, none⟩) N_0.out _).trans (((Yk (p := ⟨g_0, _, none⟩) N_0.out _).trans (hHeld.2.1)))), ((Yk (p := ⟨g_0, _, none⟩) (by first | exact Kd.own_blk (Kd.R_ne HO_7.out B_0.out (by decide)) | (rw [Yh]; exact Kd.own_blk (Kd.R_ne HO_7.out B_0.out (by decide))) | (show (Addr.add _ _).block ≠ _; rw [Yh]; exact Kd.own_blk (Kd.R_ne HO_7.out B_0.out (by decide))) | (dsimp only; exact Kd.own_blk (Kd.R_ne HO_7.out B_0.out (by decide)))) _).trans (((Yk (p := ⟨g_0, _, none⟩) (by first | exact Kd.own_blk (Kd.R_ne HO_7.out B_0.out (by decide)) | (rw [Yh]; exact Kd.own_blk (Kd.R_ne HO_7.out B_0.out (by decide))) | (show (Addr.add _ _).block ≠ _; rw [Yh]; exact Kd.own_blk (Kd.R_ne HO_7.out B_0.out (by decide))) | (dsimp only; exact Kd.own_blk (Kd.R_ne HO_7.out B_0.out (by decide)))) _).trans (hHeld.2.2.1)))), ((Yk (p := ⟨g_0, _, none⟩) (by first | exact Kd.own_blk (Kd.R_ne HO_7.out B_0.out (by decide)) | (rw [Yh]; exact Kd.own_blk (Kd.R_ne HO_7.out B_0.out (by decide))) | (show (Addr.add _ _).block ≠ _; rw [Yh]; exact Kd.own_blk (Kd.R_ne HO_7.out B_0.out (by decide))) | (dsimp only; exact Kd.own_blk (Kd.R_ne HO_7.out B_0.out (by decide)))) _).trans (((Yk (p := ⟨g_0, _, none⟩) (by first | exact Kd.own_blk (Kd.R_ne HO_7.out B_0.out (by decide)) | (rw [Yh]; exact Kd.own_blk (Kd.R_ne HO_7.out B_0.out (by decide))) | (show (Addr.add _ _).block ≠ _; rw [Yh]; exact Kd.own_blk (Kd.R_ne HO_7.out B_0.out (by decide))) | (dsimp only; exact Kd.own_blk (Kd.R_ne HO_7.out B_0.out (by decide)))) _).trans (hHeld.2.2.2.1)))), ((Yk (p := ⟨g_0, _, none⟩) (by first | exact Kd.own_blk (Kd.R_ne HO_7.out B_0.out (by decide)) | (rw [Yh]; exact Kd.own_blk (Kd.R_ne HO_7.out B_0.out (by decide))) | (show (Addr.add _ _).block ≠ _; rw [Yh]; exact Kd.own_blk (Kd.R_ne HO_7.out B_0.out (by decide))) | (dsimp only; exact Kd.own_blk (Kd.R_ne HO_7.out B_0.out (by decide)))) _).trans (((Yk (p := ⟨g_0, _, none⟩) (by first | exact Kd.own_blk (Kd.R_ne HO_7.out B_0.out (by decide)) | (rw [Yh]; exact Kd.own_blk (Kd.R_ne HO_7.out B_0.out (by decide))) | (show (Addr.add _ _).block ≠ _; rw [Yh]; exact Kd.own_blk (Kd.R_ne HO_7.out B_0.out (by decide))) | (dsimp only; exact Kd.own_blk (Kd.R_ne HO_7.out B_0.out (by decide)))) _).trans (hHeld.2.2.2.2.1)))), ((Yk (p := ⟨g_0, _, none⟩) (by first | exact Kd.own_blk (Kd.R_ne HO_7.out B_0.out (by decide)) | (rw [Yh]; exact Kd.own_blk (Kd.R_ne HO_7.out B_0.out (by decide))) | (show (Addr.add _ _).block ≠ _; rw [Yh]; exact Kd.own_blk (Kd.R_ne HO_7.out B_0.out (by decide))) | (dsimp only; exact Kd.own_blk (Kd.R_ne HO_7.out B_0.out (by decide)))) _).trans (((Yk (p := ⟨g_0, _, none⟩) (by first | exact Kd.own_blk (Kd.R_ne HO_7.out B_0.out (by decide)) | (rw [Yh]; exact Kd.own_blk (Kd.R_ne HO_7.out B_0.out (by decide))) | (show (Addr.add _ _).block ≠ _; rw [Yh]; exact Kd.own_blk (Kd.R_ne HO_7.out B_0.out (by decide))) | (dsimp only; exact Kd.own_blk (Kd.R_ne HO_7.out B_0.out (by decide)))) _).trans (hHeld.2.2.2.2.2.1)))), ((Yk (p := ⟨g_0, _, none⟩) (by first | exact Kd.own_blk (Kd.R_ne HO_7.out B_0.out (by decide)) | (rw [Yh]; exact Kd.own_blk (Kd.R_ne HO_7.out B_0.out (by decide))) | (show (Addr.add _ _).block ≠ _; rw [Yh]; exact Kd.own_blk (Kd.R_ne HO_7.out B_0.out (by decide))) | (dsimp only; exact Kd.own_blk (Kd.R_ne HO_7.out B_0.out (by decide)))) _).trans (((Yk (p := ⟨g_0, _, none⟩) (by first | exact Kd.own_blk (Kd.R_ne HO_7.out B_0.out (by decide)) | (rw [Yh]; exact Kd.own_blk (Kd.R_ne HO_7.out B_0.out (by decide))) | (show (Addr.add _ _).block ≠ _; rw [Yh]; exact Kd.own_blk (Kd.R_ne HO_7.out B_0.out (by decide))) | (dsimp only; exact Kd.own_blk (Kd.R_ne HO_7.out B_0.out (by decide)))) _).trans (hHeld.2.2.2.2.2.2.1)))), ((Yk (p := ⟨g_0, _, none⟩) (by first | exact Kd.own_blk (Kd.R_ne HO_7.out B_0.out (by decide)) | (rw [Yh]; exact Kd.own_blk (Kd.R_ne HO_7.out B_0.out (by decide))) | (show (Addr.add _ _).block ≠ _; rw [Yh]; exact Kd.own_blk (Kd.R_ne HO_7.out B_0.out (by decide))) | (dsimp only; exact Kd.own_blk (Kd.R_ne HO_7.out B_0.out (by decide)))) _).trans (((Yk (p := ⟨g_0, _, none⟩) (by first | exact Kd.own_blk (Kd.R_ne HO_7.out B_0.out (by decide)) | (rw [Yh]; exact Kd.own_blk (Kd.R_ne HO_7.out B_0.out (by decide))) | (show (Addr.add _ _).block ≠ _; rw [Yh]; exact Kd.own_blk (Kd.R_ne HO_7.out B_0.out (by decide))) | (dsimp only; exact Kd.own_blk (Kd.R_ne HO_7.out B_0.out (by decide)))) _).trans (hHeld.2.2.2.2.2.2.2.1)))), ((Yk (p := ⟨g_0, _, none⟩) (by first | exact Kd.own_blk (Kd.R_ne HO_7.out B_0.out (by decide)) | (rw [Yh]; exact Kd.own_blk (Kd.R_ne HO_7.out B_0.out (by decide))) | (show (Addr.add _ _).block ≠ _; rw [Yh]; exact Kd.own_blk (Kd.R_ne HO_7.out B_0.out (by decide))) | (dsimp only; exact Kd.own_blk (Kd.R_ne HO_7.out B_0.out (by decide)))) _).trans (((Yk (p := ⟨g_0, _, none⟩) (by first | exact Kd.own_blk (Kd.R_ne HO_7.out B_0.out (by decide)) | (rw [Yh]; exact Kd.own_blk (Kd.R_ne HO_7.out B_0.out (by decide))) | (show (Addr.add _ _).block ≠ _; rw [Yh]; exact Kd.own_blk (Kd.R_ne HO_7.out B_0.out (by decide))) | (dsimp only; exact Kd.own_blk (Kd.R_ne HO_7.out B_0.out (by decide)))) _).trans (hHeld.2.2.2.2.2.2.2.2.1)))), ((Yk (p := ⟨g_0, _, none⟩) (by first | exact Kd.own_blk (Kd.R_ne HO_7.out B_0.out (by decide)) | (rw [Yh]; exact Kd.own_blk (Kd.R_ne HO_7.out B_0.out (by decide))) | (show (Addr.add _ _).block ≠ _; rw [Yh]; exact Kd.own_blk (Kd.R_ne HO_7.out B_0.out (by decide))) | (dsimp only; exact Kd.own_blk (Kd.R_ne HO_7.out B_0.out (by decide)))) _).trans (((Yk (p := ⟨g_0, _, none⟩) (by first | exact Kd.own_blk (Kd.R_ne HO_7.out B_0.out (by decide)) | (rw [Yh]; exact Kd.own_blk (Kd.R_ne HO_7.out B_0.out (by decide))) | (show (Addr.add _ _).block ≠ _; rw [Yh]; exact Kd.own_blk (Kd.R_ne HO_7.out B_0.out (by decide))) | (dsimp only; exact Kd.own_blk (Kd.R_ne HO_7.out B_0.out (by decide)))) _).trans (hHeld.2.2.2.2.2.2.2.2.2.1)))), ((Yk (p := ⟨g_0, _, none⟩) (by first | exact Kd.own_blk (Kd.R_ne HO_7.out B_0.out (by decide)) | (rw [Yh]; exact Kd.own_blk (Kd.R_ne HO_7.out B_0.out (by decide))) | (show (Addr.add _ _).block ≠ _; rw [Yh]; exact Kd.own_blk (Kd.R_ne HO_7.out B_0.out (by decide))) | (dsimp only; exact Kd.own_blk (Kd.R_ne HO_7.out B_0.out (by decide)))) _).trans (((Yk (p := ⟨g_0, _, none⟩) (by first | exact Kd.own_blk (Kd.R_ne HO_7.out B_0.out (by decide)) | (rw [Yh]; exact Kd.own_blk (Kd.R_ne HO_7.out B_0.out (by decide))) | (show (Addr.add _ _).block ≠ _; rw [Yh]; exact Kd.own_blk (Kd.R_ne HO_7.out B_0.out (by decide))) | (dsimp only; exact Kd.own_blk (Kd.R_ne HO_7.out B_0.out (by decide)))) _).trans (hHeld.2.2.2.2.2.2.2.2.2.2.1)))), ((Yk (p := ⟨g_0, _, none⟩) (by first | exact Kd.own_blk (Kd.R_ne HO_7.out B_0.out (by decide)) | (rw [Yh]; exact Kd.own_blk (Kd.R_ne HO_7.out B_0.out (by decide))) | (show (Addr.add _ _).block ≠ _; rw [Yh]; exact Kd.own_blk (Kd.R_ne HO_7.out B_0.out (by decide))) | (dsimp only; exact Kd.own_blk (Kd.R_ne HO_7.out B_0.out (by decide)))) _).trans (((Yk (p := ⟨g_0, _, none⟩) (by first | exact Kd.own_blk (Kd.R_ne HO_7.out B_0.out (by decide)) | (rw [Yh]; exact Kd.own_blk (Kd.R_ne HO_7.out B_0.out (by decide))) | (show (Addr.add _ _).block ≠ _; rw [Yh]; exact Kd.own_blk (Kd.R_ne HO_7.out B_0.out (by decide))) | (dsimp only; exact Kd.own_blk (Kd.R_ne HO_7.out B_0.out (by decide)))) _).trans (hHeld.2.2.2.2.2.2.2.2.2.2.2.1)))), ((Yk (p := ⟨g_0, _, none⟩) (by first | exact Kd.own_blk (Kd.R_ne HO_7.out B_0.out (by decide)) | (rw [Yh]; exact Kd.own_blk (Kd.R_ne HO_7.out B_0.out (by decide))) | (show (Addr.add _ _).block ≠ _; rw [Yh]; exact Kd.own_blk (Kd.R_ne HO_7.out B_0.out (by decide))) | (dsimp only; exact Kd.own_blk (Kd.R_ne HO_7.out B_0.out (by decide)))) _).trans (((Yk (p := ⟨g_0, _, none⟩) (by first | exact Kd.own_blk (Kd.R_ne HO_7.out B_0.out (by decide)) | (rw [Yh]; exact Kd.own_blk (Kd.R_ne HO_7.out B_0.out (by decide))) | (show (Addr.add _ _).block ≠ _; rw [Yh]; exact Kd.own_blk (Kd.R_ne HO_7.out B_0.out (by decide))) | (dsimp only; exact Kd.own_blk (Kd.R_ne HO_7.out B_0.out (by decide)))) _).trans (hHeld.2.2.2.2.2.2.2.2.2.2.2.2.1)))), ((Yk (p := ⟨g_0, _, none⟩) (by first | exact Kd.own_blk (Kd.R_ne HO_7.out B_0.out (by decide)) | (rw [Yh]; exact Kd.own_blk (Kd.R_ne HO_7.out B_0.out (by decide))) | (show (Addr.add _ _).block ≠ _; rw [Yh]; exact Kd.own_blk (Kd.R_ne HO_7.out B_0.out (by decide))) | (dsimp only; exact Kd.own_blk (Kd.R_ne HO_7.out B_0.out (by decide)))) _).trans (((Yk (p := ⟨g_0, _, none⟩) (by first | exact Kd.own_blk (Kd.R_ne HO_7.out B_0.out (by decide)) | (rw [Yh]; exact Kd.own_blk (Kd.R_ne HO_7.out B_0.out (by decide))) | (show (Addr.add _ _).block ≠ _; rw [Yh]; exact Kd.own_blk (Kd.R_ne HO_7.out B_0.out (by decide))) | (dsimp only; exact Kd.own_blk (Kd.R_ne HO_7.out B_0.out (by decide)))) _).trans (hHeld.2.2.2.2.2.2.2.2.2.2.2.2.2.1)))), ((Yk (p := ⟨g_0, _, none⟩) (by first | exact Kd.own_blk (Kd.R_ne HO_7.out B_0.out (by decide)) | (rw [Yh]; exact Kd.own_blk (Kd.R_ne HO_7.out B_0.out (by decide))) | (show (Addr.add _ _).block ≠ _; rw [Yh]; exact Kd.own_blk (Kd.R_ne HO_7.out B_0.out (by decide))) | (dsimp only; exact Kd.own_blk (Kd.R_ne HO_7.out B_0.out (by decide)))) _).trans (((Yk (p := ⟨g_0, _, none⟩) (by first | exact Kd.own_blk (Kd.R_ne HO_7.out B_0.out (by decide)) | (rw [Yh]; exact Kd.own_blk (Kd.R_ne HO_7.out B_0.out (by decide))) | (show (Addr.add _ _).block ≠ _; rw [Yh]; exact Kd.own_blk (Kd.R_ne HO_7.out B_0.out (by decide))) | (dsimp only; exact Kd.own_blk (Kd.R_ne HO_7.out B_0.out (by decide)))) _).trans (hHeld.2.2.2.2.2.2.2.2.2.2.2.2.2.2))))⟩ (fun hHeld => ?_)
             clear hK K
             refine puA 11 15 (bs 12 4095) ?_
             refine done_ (Y1a HT_.out (by kernel_rfl)) ?_
             have hnb83 := N_2.out
             have hnc83 := N_1.out
             have hnb84 := N_3.out
             have hnc84 := N_0.out
             have z_l := Y1 B_0.out
             have f_p := Y6 B_0.out
             have hnb86 := N_5.out
             have hnc86 := N_4.out
             have z_p := Y1 B_2.out
             have f_k := Y6 B_2.out
             try go_wp2
             go_roundg k3
             case measure => have := HK1.out; have := HK2.out; have := HK3.out; omega
             case rel => exact ⟨(wrap64 (x13_3 + 1)), (t_0), (t_1), (.slice Ao81 t_1.length co81), reS, H', ⟨by have := HK1.out; have := HK2.out; have := HK3.out; omega⟩, ⟨by (with_reducible repeat (first | apply Kd.R_alloc | apply Kd.R_drewN | apply Kd.R_drew)); exact Kd.R_mono (Kd.R_far (p := ⟨g_1, 1, none⟩) (Kd.R_far (p := ⟨g_1, 0, none⟩) (Kd.R_far (p := ⟨g_0, 1, none⟩) (Kd.R_far (p := ⟨g_0, 0, none⟩) (Kd.R_types (Kd.R_types HO_7.out B_0.out (by decide)) B_2.out (by decide)) (fun _ hk => hk.1.2) (.int .i64 t_0)) (fun _ hk => hk.1.2) (.slice Ao81 t_1.length co81)) (fun _ hk => hk.2) (.int .i64 t_0)) (fun _ hk => hk.2) (.slice Ao81 t_1.length co81)) (fun _ hk => hk.1.1.1)⟩, ⟨by (with_reducible repeat (first | apply Kd.R_alloc | apply Kd.R_drewN | apply Kd.R_drew)); exact Kd.R_mono (Kd.R_far (p := ⟨g_1, 1, none⟩) (Kd.R_far (p := ⟨g_1, 0, none⟩) (Kd.R_far (p := ⟨g_0, 1, none⟩) (Kd.R_far (p := ⟨g_0, 0, none⟩) (Kd.R_types (Kd.R_types O_0.out B_0.out (by decide)) B_2.out (by decide)) (fun _ hk => hk.1.2) (.int .i64 t_0)) (fun _ hk => hk.1.2) (.slice Ao81 t_1.length co81)) (fun _ hk => hk.2) (.int .i64 t_0)) (fun _ hk => hk.2) (.slice Ao81 t_1.length co81)) (fun _ hk => hk.1.1.1)⟩, ⟨by (with_reducible repeat (first | refine Yb ?_ _ | refine Ya ?_ | refine Y9 ?_ _)); refine (Below.heap_setCell _ ⟨_, _, none⟩ _ _ N_4.out).trans ?_; (with_reducible repeat (first | refine Yb ?_ _ | refine Ya ?_ | refine Y9 ?_ _)); refine (Below.heap_setCell _ ⟨_, _, none⟩ _ _ N_4.out).trans ?_; (with_reducible repeat (first | refine Yb ?_ _ | refine Ya ?_ | refine Y9 ?_ _)); refine (Below.heap_setCell _ ⟨_, _, none⟩ _ _ N_1.out).trans ?_; (with_reducible repeat (first | refine Yb ?_ _ | refine Ya ?_ | refine Y9 ?_ _)); refine (Below.heap_setCell _ ⟨_, _, none⟩ _ _ N_1.out).trans ?_; (with_reducible repeat (first | refine Yb ?_ _ | refine Ya ?_ | refine Y9 ?_ _)); exact B_1.out⟩, ⟨by (with_reducible repeat (first | refine Yb ?_ _ | refine Ya ?_ | refine Y9 ?_ _)); refine Ys (cs := #[.int .i64 t_0, .slice Ao75 x780001_3.length co75]) ?_ 1 _ rfl; (with_reducible repeat (first | refine Yb ?_ _ | refine Ya ?_ | refine Y9 ?_ _)); refine Ys (cs := #[.int .i64 x780000_3, .slice Ao75 x780001_3.length co75]) ?_ 0 _ rfl; (with_reducible repeat (first | refine Yb ?_ _ | refine Ya ?_ | refine Y9 ?_ _)); refine (Below.heap_setCell _ ⟨_, _, none⟩ _ _ N_0.out).trans ?_; (with_reducible repeat (first | refine Yb ?_ _ | refine Ya ?_ | refine Y9 ?_ _)); refine (Below.heap_setCell _ ⟨_, _, none⟩ _ _ N_0.out).trans ?_; (with_reducible repeat (first | refine Yb ?_ _ | refine Ya ?_ | refine Y9 ?_ _)); exact B_2.out⟩, ⟨hU HB.out⟩⟩
           ·rw [if_neg c59] at H
            have c59b0 := decide_eq_false c59
            clear c59
            have H' := Y0.mk H
            clear H
            obtain ⟨Ao88, co88, eo88⟩ := Kd.R_slice HO_7.out
            subst eo88
            go_wp2
            go_roundg k3
            case measure => have := HK1.out; have := HK2.out; have := HK3.out; omega
            case rel => exact ⟨(wrap64 (x12_2 + 1)), (x780000_3), (x780001_3), (u780001), reS, H', ⟨by have := HK1.out; have := HK2.out; have := HK3.out; omega⟩, ⟨by (with_reducible repeat (first | apply Kd.R_alloc | apply Kd.R_drewN | apply Kd.R_drew)); exact HO_7.out⟩, ⟨by (with_reducible repeat (first | apply Kd.R_alloc | apply Kd.R_drewN | apply Kd.R_drew)); exact HO_780001.out⟩, ⟨kB B_1⟩, ⟨kB B_2⟩, ⟨hU HB.out⟩⟩
        ·rw [if_neg c56] at H
         have c56b0 := decide_eq_false c56
         clear c56
         obtain ⟨t_8, A890, H⟩ := bS H
         replace H : (if t_8 = true then ((Y8.f k2).bind fun t_3 => (some t_3)) else (none)) = some r := H
         have A89 := Y0.mk A890
         clear A890
         by_cases c90 : t_8 = true
         rotate_left
         ·replace c90 := Bool.eq_false_iff.mpr c90
          subst c90
          have H1 : (none) = some r := by rw [if_neg (show ¬ (false = true) by decide)] at H; exact H
          clear H
          have H := H1
          clear H1
          exact absurd H (by simp)
         subst c90
         have H1 : ((Y8.f k2).bind fun t_3 => (some t_3)) = some r := by rw [if_pos rfl] at H; exact H
         clear H
         have H := H1
         clear H1
         obtain ⟨t_3, A910, H⟩ := bS H
         replace H : (some t_3) = some r := H
         have A91 := Y0.mk A910
         clear A910
         obtain rfl := Option.some.inj H
         have hnb92 := N_4.out
         have hnc92 := N_5.out
         have z_o := Y1 B_1.out
         have f_l := Y6 B_1.out
         have z_j := Y1 B_2.out
         have f_j := Y6 B_2.out
         obtain ⟨Ao95, co95, eo95⟩ := Kd.R_slice HO_780001.out
         subst eo95
         go_wp2_with (first | ((with_reducible refine Yc (f := 30) rfl ?_); refine goesA (some 108) Try.func30 #[.slice Ao95 x780001_2.length co95, .slice A0_1 l0_1.length c0_1] ?_; (with_reducible refine (Yd.calls k2 _ _ x780001_2 _ _ l0_1 true _ ?side1 ?side2 ?side3 ?side4 A89.out).mono ?_); (case side1 => repeat (first | exact (Kd.R_reads' HO_780001.out).2.2 | (with_reducible refine Kd.C_alloc ?_ _) | (with_reducible refine Kd.C_drewN ?_ _) | (with_reducible refine Kd.C_drew ?_))); (case side2 => exact (Kd.R_reads' HO_780001.out).2.1); (case side3 => repeat (first | exact (Kd.C_below HR0_1.out HB.out) | (with_reducible refine Kd.C_alloc ?_ _) | (with_reducible refine Kd.C_drewN ?_ _) | (with_reducible refine Kd.C_drew ?_))); (case side4 => exact HC0_1.out); rintro e w' ⟨rfl, ⟨nd, rfl⟩⟩; refine ⟨_, rfl, ?_⟩) | (go_at_call 18; (with_reducible refine (Y8.calls k2  t_3 _ A91.out).mono ?_); rintro e w96 ⟨rfl, hb⟩; replace HO_7 := Y0.mk (Kd.R_below (Kd.rU HO_7.out) hb); replace HO_780001 := Y0.mk (Kd.R_below (Kd.rU HO_780001.out) hb); replace B_1 := Y0.mk (Y3 (bU B_1.out) hb); replace B_2 := Y0.mk (Y3 (bU B_2.out) hb); replace HB := Y0.mk (Y5 (hU HB.out) hb); (try clear hb); (try clear hb2); (try clear hk); (try clear hi)))
         go_ret
         exact ⟨reT, hU HB.out⟩
  ·rw [if_neg c12] at H
   have c12b0 := bqF c12
   have c12b1 := bnT c12
   obtain ⟨t_6, A970, H⟩ := bS H
   replace H : (some t_6) = some r := H
   have A97 := Y0.mk A970
   clear A970
   obtain rfl := Option.some.inj H
   go_enter Try.func6, Try.ntmps6
   go_wp2_with (first | ((with_reducible refine Yf (N := 3) rfl ?_); refine Yn ?hg (N := 3) ?hd (cs := #[.int .i64 a0_0, .slice A0_1 l0_1.length c0_1]) (t := 24) ?hr ?_; (case hd => rfl); (case hg => rfl); (case hr => first | (go_simp; done) | (go_simp; rfl)); intro g_2 hg w98 hbox hb; have n0_ := Y0.mk (Y5 (hU HB.out) hb); have n1_ := Y0.mk (hbox); have n2_ := gE hg HB; have n3_ := gE hg HB; clear HB; have HB := n0_; have B_1 := n1_; have W_1 := n2_; have G_1 := n3_; clear n0_ n1_ n2_ n3_; clear hb hbox hg; have z_n := Y1 B_1.out; have f_n := Y6 B_1.out) | ((with_reducible refine Yc (f := 22) rfl ?_); refine goesA (some 17) Try.func22 #[.agg #[.int .i64 a0_0, .slice A0_1 l0_1.length c0_1]] ?_; (with_reducible refine (Yw.calls a0_0 _ _ l0_1 false _ ?side1 ?side2 A4.out).mono ?_); (case side1 => repeat (first | exact (Kd.C_below HR0_1.out HB.out) | (with_reducible refine Kd.C_alloc ?_ _) | (with_reducible refine Kd.C_drewN ?_ _) | (with_reducible refine Kd.C_drew ?_))); (case side2 => exact HC0_1.out); rintro e w100 ⟨rfl, hb⟩; refine ⟨_, rfl, ?_⟩; replace B_1 := Y0.mk (Y3 (bU B_1.out) hb); replace HB := Y0.mk (Y5 (hU HB.out) hb); (try clear hb); (try clear hb2); (try clear hk); (try clear hi); have z_k := Y1 B_1.out; have f_m := Y6 B_1.out) | (go_at_call 29; (with_reducible refine (Yp.calls a0_0 _ _ l0_1 t_5 _ ?side1 ?side2 A11.out).mono ?_); (case side1 => repeat (first | exact (Kd.C_below HR0_1.out HB.out) | (with_reducible refine Kd.C_alloc ?_ _) | (with_reducible refine Kd.C_drewN ?_ _) | (with_reducible refine Kd.C_drew ?_))); (case side2 => exact HC0_1.out); rintro e w102 ⟨rfl, hb⟩; replace B_1 := Y0.mk (Y3 (bU B_1.out) hb); replace HB := Y0.mk (Y5 (hU HB.out) hb); (try clear hb); (try clear hb2); (try clear hk); (try clear hi)) | ((with_reducible refine Yc (f := 18) rfl ?_); refine goesA (some 23) Try.func18 #[] ?_; (with_reducible refine (Y8.calls k  t_6 _ A97.out).mono ?_); rintro e w103 ⟨rfl, hb⟩; refine ⟨_, rfl, ?_⟩; replace B_1 := Y0.mk (Y3 (bU B_1.out) hb); replace HB := Y0.mk (Y5 (hU HB.out) hb); (try clear hb); (try clear hb2); (try clear hk); (try clear hi)))
   go_ret
   exact ⟨reT, hU HB.out⟩
end Go.Proofs.Yteopkkoblbmggaa.P
end

/- Texts of this claim in one: VP34, VP46; no condition. -/
import Derived.Test.YteopkkoblbmggaaQBAD
import Derived.Test.YteopkkoblbmggaaQBAH
import Derived.Test.YteopkkoblbmggaaQBAI
section
namespace Go.Proofs.Yteopkkoblbmggaa.P
open Go.RowKit Go.Proofs.YteopkkoblbmggaaW.PrintWords Go.Proofs.YteopkkoblbmggaaW.PrintLast Go.Proofs.YteopkkoblbmggaaW.PrintMore
attribute [local go_sem] YR YT Y11 Y12 YL YM YS YU
set_option linter.unusedVariables false
set_option linter.unusedSimpArgs false
attribute [local go_sem high] eqA30
def Yg.l0 : Nat → List (S30) → List (S30) → Int → Option (Bool)
 | 0, _, _, _ => none
 | k + 1, x0, x1, x5 => if x5 < (x0.length : Int) then (if 0 ≤ x5 then (if x5 < (x1.length : Int) then (if ((!(((Y1 x0 x5).f0.f0) == ((Y1 x1 x5).f0.f0)) || (!(((Y1 x0 x5).f0.f1) == ((Y1 x1 x5).f0.f1)))) || (!(((Y1 x0 x5).f1) == ((Y1 x1 x5).f1)) || ((!(((Y1 x0 x5).f2.f0) == ((Y1 x1 x5).f2.f0)) || (!(((Y1 x0 x5).f2.f1) == ((Y1 x1 x5).f2.f1)))) || (!(((Y1 x0 x5).f3) == ((Y1 x1 x5).f3)) || ((!(((Y1 x0 x5).f4.f0) == ((Y1 x1 x5).f4.f0)) || (!(((Y1 x0 x5).f4.f1) == ((Y1 x1 x5).f4.f1)) || (!(((Y1 x0 x5).f4.f2) == ((Y1 x1 x5).f4.f2)) || (!(((Y1 x0 x5).f4.f3) == ((Y1 x1 x5).f4.f3)) || (!(((Y1 x0 x5).f4.f4) == ((Y1 x1 x5).f4.f4)) || (!(((Y1 x0 x5).f4.f5) == ((Y1 x1 x5).f4.f5)) || (!(((Y1 x0 x5).f4.f6) == ((Y1 x1 x5).f4.f6)))))))))))))) = true then (some false) else (Yg.l0 k x0 x1 (wrap64 (x5 + 1)))) else (none)) else (none)) else (some true)
def Yg.f (k : Nat) (l0 : List (S30)) (l1 : List (S30)) : Option (Bool) := if (l0.length : Int) = (l1.length : Int) then (Yg.l0 k l0 l1 0) else (some false)
theorem Yg.mono_l : ∀ k, (∀ y0 y1 y2, LeO (Yg.l0 k y0 y1 y2) (Yg.l0 (k + 1) y0 y1 y2))
 | 0 => fun _ _ _ r h => by simp [Yg.l0] at h
 | k + 1 => by
  have ih0 := Yg.mono_l k
  ·intro y0 y1 y2
   unfold Yg.l0
   repeat' first
   | (with_reducible exact ih0 _ _ _)
   | (with_reducible exact LeO.refl _)
   | (with_reducible exact LeO.none _)
   | (with_reducible refine LeO.ite ?_ ?_)
   | (with_reducible refine LeO.bind ?_ (fun _ => ?_))
theorem Yg.mono : ∀ a0 a1 k, LeO (Yg.f k a0 a1) (Yg.f (k + 1) a0 a1) := by
 intro a0 a1 k
 have ih0 := Yg.mono_l k
 unfold Yg.f
 repeat' first
   | (with_reducible exact ih0 _ _ _)
   | (with_reducible exact LeO.refl _)
   | (with_reducible exact LeO.none _)
   | (with_reducible refine LeO.ite ?_ ?_)
   | (with_reducible refine LeO.bind ?_ (fun _ => ?_))
set_option maxHeartbeats 8000000 in
set_option maxRecDepth 100000 in
theorem Yg.calls (k : Nat) (A0 : Option Addr) (c0 : Nat) (l0 : List (S30)) (A1 : Option Addr) (c1 : Nat) (l1 : List (S30)) (r : Bool) (w : World) (hr0 : Kd.C k30 w A0 l0.length l0) (hc0 : l0.length ≤ c0) (hr1 : Kd.C k30 w A1 l1.length l1) (hc1 : l1.length ≤ c1) (h : Yg.f k l0 l1 = some r) :
  Calls Try.prog 30 #[.slice A0 l0.length c0, .slice A1 l1.length c1] w fun e w' => e = .returned (.bool r) ∧ Drawn0 w w' := by
 have hu30 := Try.underlying30
 have HR0 := Y0.mk hr0
 have HC0 := Y0.mk hc0
 clear hr0 hc0
 have HR1 := Y0.mk hr1
 have HC1 := Y0.mk hc1
 clear hr1 hc1
 have H : (if (l0.length : Int) = (l1.length : Int) then (Yg.l0 k l0 l1 0) else (some false)) = some r := h
 clear h
 by_cases c3 : (l0.length : Int) = (l1.length : Int)
 ·rw [if_pos c3] at H
  have c3b0 := bqT c3
  have c3b1 := bnF c3
  have c3b2 : (l0.length == l1.length) = true := by first | simpa using c3 | (simp at c3 ⊢; omega)
  clear c3
  have H' := Y0.mk H
  clear H
  go_enter Try.func30, Try.ntmps30
  go_wp2
  repeat (go_quiet (fail); try go_wp2)
  go_loopg [5] k (fun kq v5 w' => ∃ (x5_1 : Int), v5 = .int .i64 x5_1 ∧ Y0 (Yg.l0 kq l0 l1 x5_1 = some r) ∧ Y0 (kq ≤ k) ∧ Drawn0 w w')
  case atStart => exact ⟨(0), reS, H', ⟨Nat.le_refl _⟩, dS⟩
  case round =>
   clear H'
   try clear c1
   try clear p2
   try clear c3
   try clear c3b0
   try clear c3b1
   try clear c3b2
   obtain ⟨x5_1, rfl, HA, HK1, ⟨m1, rfl⟩⟩ := hrel
   cases gk with
   | zero => exact absurd HA.out (by simp [Yg.l0])
   | succ k1 =>
    have H := HA.out
    clear HA
    simp only [Yg.l0] at H
    by_cases c4 : x5_1 < (l0.length : Int)
    ·rw [if_pos c4] at H
     have c4b0 := decide_eq_true c4
     clear c4
     obtain ⟨c5, H⟩ := iS H
     have c5b0 := decide_eq_true c5
     clear c5
     obtain ⟨c6, H⟩ := iS H
     have c6b0 := decide_eq_true c6
     clear c6
     by_cases c7 : ((!(((Y1 l0 x5_1).f0.f0) == ((Y1 l1 x5_1).f0.f0)) || (!(((Y1 l0 x5_1).f0.f1) == ((Y1 l1 x5_1).f0.f1)))) || (!(((Y1 l0 x5_1).f1) == ((Y1 l1 x5_1).f1)) || ((!(((Y1 l0 x5_1).f2.f0) == ((Y1 l1 x5_1).f2.f0)) || (!(((Y1 l0 x5_1).f2.f1) == ((Y1 l1 x5_1).f2.f1)))) || (!(((Y1 l0 x5_1).f3) == ((Y1 l1 x5_1).f3)) || ((!(((Y1 l0 x5_1).f4.f0) == ((Y1 l1 x5_1).f4.f0)) || (!(((Y1 l0 x5_1).f4.f1) == ((Y1 l1 x5_1).f4.f1)) || (!(((Y1 l0 x5_1).f4.f2) == ((Y1 l1 x5_1).f4.f2)) || (!(((Y1 l0 x5_1).f4.f3) == ((Y1 l1 x5_1).f4.f3)) || (!(((Y1 l0 x5_1).f4.f4) == ((Y1 l1 x5_1).f4.f4)) || (!(((Y1 l0 x5_1).f4.f5) == ((Y1 l1 x5_1).f4.f5)) || (!(((Y1 l0 x5_1).f4.f6) == ((Y1 l1 x5_1).f4.f6)))))))))))))) = true
     ·rw [if_pos c7] at H
      have c7b0 : ((!(((Y1 l0 x5_1).f0.f0) == ((Y1 l1 x5_1).f0.f0)) || (!(((Y1 l0 x5_1).f0.f1) == ((Y1 l1 x5_1).f0.f1)))) || (!(((Y1 l0 x5_1).f1) == ((Y1 l1 x5_1).f1)) || ((!(((Y1 l0 x5_1).f2.f0) == ((Y1 l1 x5_1).f2.f0)) || (!(((Y1 l0 x5_1).f2.f1) == ((Y1 l1 x5_1).f2.f1)))) || (!(((Y1 l0 x5_1).f3) == ((Y1 l1 x5_1).f3)) || ((!(((Y1 l0 x5_1).f4.f0) == ((Y1 l1 x5_1).f4.f0)) || (!(((Y1 l0 x5_1).f4.f1) == ((Y1 l1 x5_1).f4.f1)) || (!(((Y1 l0 x5_1).f4.f2) == ((Y1 l1 x5_1).f4.f2)) || (!(((Y1 l0 x5_1).f4.f3) == ((Y1 l1 x5_1).f4.f3)) || (!(((Y1 l0 x5_1).f4.f4) == ((Y1 l1 x5_1).f4.f4)) || (!(((Y1 l0 x5_1).f4.f5) == ((Y1 l1 x5_1).f4.f5)) || (!(((Y1 l0 x5_1).f4.f6) == ((Y1 l1 x5_1).f4.f6)))))))))))))) = true := c7
      clear c7
      obtain rfl := Option.some.inj H
      have p543 : 0 ≤ (x5_1 : Int) := of_decide_eq_true (by first | (with_reducible assumption) | assumption)
      have q543 : x5_1 < (l0.length : Int) := of_decide_eq_true (by first | (with_reducible assumption) | assumption)
      obtain ⟨d_0, e543, m_n, m_c, m_h, m_3, m_8, m_4, m_k, m_a, m_p, m_e, m_9, m_b, m_g⟩ := Y14 HR0.out x5_1 p543 q543
      cases e543
      replace p543 := eq_true p543
      replace q543 := eq_true q543
      have p544 : 0 ≤ (x5_1 : Int) := of_decide_eq_true (by first | (with_reducible assumption) | assumption)
      have q544 : x5_1 < (l1.length : Int) := of_decide_eq_true (by first | (with_reducible assumption) | assumption)
      obtain ⟨d_1, e544, m_0, m_j, m_m, m_i, m_f, m_7, m_6, m_1, m_l, m_o, m_2, m_5, m_d⟩ := Y14 HR1.out x5_1 p544 q544
      cases e544
      replace p544 := eq_true p544
      replace q544 := eq_true q544
      go_wp2
      repeat (go_quiet (fail); try go_wp2)
      go_ret
      exact ⟨reS, dS⟩
     ·rw [if_neg c7] at H
      have c7b0 : ((!(((Y1 l0 x5_1).f0.f0) == ((Y1 l1 x5_1).f0.f0)) || (!(((Y1 l0 x5_1).f0.f1) == ((Y1 l1 x5_1).f0.f1)))) || (!(((Y1 l0 x5_1).f1) == ((Y1 l1 x5_1).f1)) || ((!(((Y1 l0 x5_1).f2.f0) == ((Y1 l1 x5_1).f2.f0)) || (!(((Y1 l0 x5_1).f2.f1) == ((Y1 l1 x5_1).f2.f1)))) || (!(((Y1 l0 x5_1).f3) == ((Y1 l1 x5_1).f3)) || ((!(((Y1 l0 x5_1).f4.f0) == ((Y1 l1 x5_1).f4.f0)) || (!(((Y1 l0 x5_1).f4.f1) == ((Y1 l1 x5_1).f4.f1)) || (!(((Y1 l0 x5_1).f4.f2) == ((Y1 l1 x5_1).f4.f2)) || (!(((Y1 l0 x5_1).f4.f3) == ((Y1 l1 x5_1).f4.f3)) || (!(((Y1 l0 x5_1).f4.f4) == ((Y1 l1 x5_1).f4.f4)) || (!(((Y1 l0 x5_1).f4.f5) == ((Y1 l1 x5_1).f4.f5)) || (!(((Y1 l0 x5_1).f4.f6) == ((Y1 l1 x5_1).f4.f6)))))))))))))) = false := by simpa using c7
      clear c7
      have H' := Y0.mk H
      clear H
      have p543 : 0 ≤ (x5_1 : Int) := of_decide_eq_true (by first | (with_reducible assumption) | assumption)
      have q543 : x5_1 < (l0.length : Int) := of_decide_eq_true (by first | (with_reducible assumption) | assumption)
      obtain ⟨d_0, e543, m_n, m_c, m_h, m_3, m_8, m_4, m_k, m_a, m_p, m_e, m_9, m_b, m_g⟩ := Y14 HR0.out x5_1 p543 q543
      cases e543
      replace p543 := eq_true p543
      replace q543 := eq_true q543
      have p544 : 0 ≤ (x5_1 : Int) := of_decide_eq_true (by first | (with_reducible assumption) | assumption)
      have q544 : x5_1 < (l1.length : Int) := of_decide_eq_true (by first | (with_reducible assumption) | assumption)
      obtain ⟨d_1, e544, m_0, m_j, m_m, m_i, m_f, m_7, m_6, m_1, m_l, m_o, m_2, m_5, m_d⟩ := Y14 HR1.out x5_1 p544 q544
      cases e544
      replace p544 := eq_true p544
      replace q544 := eq_true q544
      go_wp2
      repeat (go_quiet (fail); try go_wp2)
      go_roundg k1
      case measure => have := HK1.out; omega
      case rel => exact ⟨(wrap64 (x5_1 + 1)), reS, H', ⟨by have := HK1.out; omega⟩, dS⟩
    ·rw [if_neg c4] at H
     have c4b0 := decide_eq_false c4
     clear c4
     obtain rfl := Option.some.inj H
     go_wp2
     repeat (go_quiet (fail); try go_wp2)
     go_ret
     exact ⟨reS, dS⟩
 ·rw [if_neg c3] at H
  have c3b0 := bqF c3
  have c3b1 := bnT c3
  have c3b2 : (l0.length == l1.length) = false := by first | simpa using c3 | (simp at c3 ⊢; omega)
  obtain rfl := Option.some.inj H
  go_enter Try.func30, Try.ntmps30
  go_wp2
  repeat (go_quiet (fail); try go_wp2)
  go_ret
  exact ⟨reS, dS⟩
def Yy.f (k : Nat) (a0_0 : Int) (l0_1 : List (S30)) (a1_0 : Int) (l1_1 : List (S30)) : Option (Bool) := if a0_0 = a1_0 then ((Yg.f k l0_1 l1_1).bind fun t_0 => (some t_0)) else (some false)
theorem Yy.mono : ∀ a0 a1 a2 a3 k, LeO (Yy.f k a0 a1 a2 a3) (Yy.f (k + 1) a0 a1 a2 a3) := by
 intro a0 a1 a2 a3 k
 unfold Yy.f
 repeat' first
   | (with_reducible exact Yg.mono _ _ _)
   | (with_reducible exact LeO.refl _)
   | (with_reducible exact LeO.none _)
   | (with_reducible refine LeO.ite ?_ ?_)
   | (with_reducible refine LeO.bind ?_ (fun _ => ?_))
set_option maxHeartbeats 8000000 in
set_option maxRecDepth 100000 in
theorem Yy.calls (k : Nat) (a0_0 : Int) (A0_1 : Option Addr) (c0_1 : Nat) (l0_1 : List (S30)) (a1_0 : Int) (A1_1 : Option Addr) (c1_1 : Nat) (l1_1 : List (S30)) (r : Bool) (w : World) (hr0_1 : Kd.C k30 w A0_1 l0_1.length l0_1) (hc0_1 : l0_1.length ≤ c0_1) (hr1_1 : Kd.C k30 w A1_1 l1_1.length l1_1) (hc1_1 : l1_1.length ≤ c1_1) (h : Yy.f k a0_0 l0_1 a1_0 l1_1 = some r) :
  Calls Try.prog 21 #[.agg #[.int .i64 a0_0, .slice A0_1 l0_1.length c0_1], .agg #[.int .i64 a1_0, .slice A1_1 l1_1.length c1_1]] w fun e w' => e = .returned (.bool r) ∧ Below w.heap.size w w' := by
 have hu24 := Try.underlying24
 have HR0_1 := Y0.mk hr0_1
 have HC0_1 := Y0.mk hc0_1
 clear hr0_1 hc0_1
 have HR1_1 := Y0.mk hr1_1
 have HC1_1 := Y0.mk hc1_1
 clear hr1_1 hc1_1
 have HB := Y0.mk (Below.refl w.heap.size w)
 have H : (if a0_0 = a1_0 then ((Yg.f k l0_1 l1_1).bind fun t_0 => (some t_0)) else (some false)) = some r := h
 clear h
 by_cases c3 : a0_0 = a1_0
 ·rw [if_pos c3] at H
  have c3b0 := bqT c3
  have c3b1 := bnF c3
  clear c3
  obtain ⟨t_0, A40, H⟩ := bS H
  replace H : (some t_0) = some r := H
  have A4 := Y0.mk A40
  clear A40
  obtain rfl := Option.some.inj H
  go_enter Try.func21, Try.ntmps21
  go_wp2_with (first | ((with_reducible refine Ye (N := 2) rfl ?_); refine Yf ?hg (N := 2) ?hd (cs := #[.int .i64 a0_0, .slice A0_1 l0_1.length c0_1]) (t := 24) ?hr ?_; (case hd => rfl); (case hg => rfl); (case hr => first | (go_simp; done) | (go_simp; rfl)); intro g_1 hg w5 hbox hb; have n0_ := Y0.mk (Y5 (hU HB.out) hb); have n1_ := Y0.mk (hbox); have n2_ := gE hg HB; have n3_ := gE hg HB; clear HB; have HB := n0_; have B_0 := n1_; have W_0 := n2_; have G_1 := n3_; clear n0_ n1_ n2_ n3_; clear hb hbox hg) | ((with_reducible refine Ye (N := 3) rfl ?_); refine Yf ?hg (N := 3) ?hd (cs := #[.int .i64 a1_0, .slice A1_1 l1_1.length c1_1]) (t := 24) ?hr ?_; (case hd => rfl); (case hg => rfl); (case hr => first | (go_simp; done) | (go_simp; rfl)); intro g_0 hg w6 hbox hb; have n0_ := Y0.mk (Y3 (bU B_0.out) hb); have n1_ := Y0.mk (Y5 (hU HB.out) hb); have n2_ := Y0.mk (hbox); have n3_ := gE hg HB; have n4_ := gE hg HB; have n5_ := gL hg B_0; have n6_ := gG hg B_0; clear B_0; clear HB; have B_0 := n0_; have HB := n1_; have B_1 := n2_; have W_1 := n3_; have G_0 := n4_; have N_0 := n5_; have N_1 := n6_; clear n0_ n1_ n2_ n3_ n4_ n5_ n6_; clear hb hbox hg; have hnb7 := N_0.out; have hnc7 := N_1.out; have z_3 := Y2 B_0.out; have f_0 := Y4 B_0.out; have z_1 := Y2 B_1.out; have f_2 := Y4 B_1.out) | (go_at_call 30; (with_reducible refine (Yg.calls k _ _ l0_1 _ _ l1_1 t_0 _ ?side1 ?side2 ?side3 ?side4 A4.out).mono ?_); (case side1 => repeat (first | exact (Kd.C_below HR0_1.out HB.out) | (with_reducible refine Kd.C_alloc ?_ _) | (with_reducible refine Kd.C_drewN ?_ _) | (with_reducible refine Kd.C_drew ?_))); (case side2 => exact HC0_1.out); (case side3 => repeat (first | exact (Kd.C_below HR1_1.out HB.out) | (with_reducible refine Kd.C_alloc ?_ _) | (with_reducible refine Kd.C_drewN ?_ _) | (with_reducible refine Kd.C_drew ?_))); (case side4 => exact HC1_1.out); rintro e w' ⟨rfl, ⟨nd, rfl⟩⟩))
  go_ret
  exact ⟨reT, hU HB.out⟩
 ·rw [if_neg c3] at H
  have c3b0 := bqF c3
  have c3b1 := bnT c3
  obtain rfl := Option.some.inj H
  go_enter Try.func21, Try.ntmps21
  go_wp2_with (first | ((with_reducible refine Ye (N := 2) rfl ?_); refine Yf ?hg (N := 2) ?hd (cs := #[.int .i64 a0_0, .slice A0_1 l0_1.length c0_1]) (t := 24) ?hr ?_; (case hd => rfl); (case hg => rfl); (case hr => first | (go_simp; done) | (go_simp; rfl)); intro g_1 hg w10 hbox hb; have n0_ := Y0.mk (Y5 (hU HB.out) hb); have n1_ := Y0.mk (hbox); have n2_ := gE hg HB; have n3_ := gE hg HB; clear HB; have HB := n0_; have B_0 := n1_; have W_0 := n2_; have G_1 := n3_; clear n0_ n1_ n2_ n3_; clear hb hbox hg) | ((with_reducible refine Ye (N := 3) rfl ?_); refine Yf ?hg (N := 3) ?hd (cs := #[.int .i64 a1_0, .slice A1_1 l1_1.length c1_1]) (t := 24) ?hr ?_; (case hd => rfl); (case hg => rfl); (case hr => first | (go_simp; done) | (go_simp; rfl)); intro g_0 hg w11 hbox hb; have n0_ := Y0.mk (Y3 (bU B_0.out) hb); have n1_ := Y0.mk (Y5 (hU HB.out) hb); have n2_ := Y0.mk (hbox); have n3_ := gE hg HB; have n4_ := gE hg HB; have n5_ := gL hg B_0; have n6_ := gG hg B_0; clear B_0; clear HB; have B_0 := n0_; have HB := n1_; have B_1 := n2_; have W_1 := n3_; have G_0 := n4_; have N_0 := n5_; have N_1 := n6_; clear n0_ n1_ n2_ n3_ n4_ n5_ n6_; clear hb hbox hg; have hnb12 := N_0.out; have hnc12 := N_1.out; have z_2 := Y2 B_0.out; have f_1 := Y4 B_0.out; have z_0 := Y2 B_1.out; have f_3 := Y4 B_1.out))
  go_ret
  exact ⟨reT, hU HB.out⟩
end Go.Proofs.Yteopkkoblbmggaa.P
end
section
namespace Go.Proofs.Yteopkkoblbmggaa.P
open Go.RowKit Go.Proofs.YteopkkoblbmggaaW.PrintWords Go.Proofs.YteopkkoblbmggaaW.PrintLast Go.Proofs.YteopkkoblbmggaaW.PrintMore
attribute [local go_sem] YR YT Y11 Y12 YL YM YS YU
set_option linter.unusedVariables false
set_option linter.unusedSimpArgs false
def YK.f (a0_0 : Int) (l0_1 : List (S30)) (a1_0 : Int) (l1_1 : List (S30)) : Option (Int) := (Ym.f a0_0 l0_1).bind fun t_0 => (if t_0 = 0 then ((Ym.f a1_0 l1_1).bind fun t_1 => (some t_1)) else (some t_0))
set_option maxHeartbeats 8000000 in
set_option maxRecDepth 100000 in
theorem YK.calls (a0_0 : Int) (A0_1 : Option Addr) (c0_1 : Nat) (l0_1 : List (S30)) (a1_0 : Int) (A1_1 : Option Addr) (c1_1 : Nat) (l1_1 : List (S30)) (r : Int) (w : World) (hr0_1 : Kd.C k30 w A0_1 l0_1.length l0_1) (hc0_1 : l0_1.length ≤ c0_1) (hr1_1 : Kd.C k30 w A1_1 l1_1.length l1_1) (hc1_1 : l1_1.length ≤ c1_1) (h : YK.f a0_0 l0_1 a1_0 l1_1 = some r) :
  Calls Try.prog 76 #[.agg #[.int .i64 a0_0, .slice A0_1 l0_1.length c0_1], .agg #[.int .i64 a1_0, .slice A1_1 l1_1.length c1_1]] w fun e w' => e = .returned (.int .i64 r) ∧ Below w.heap.size w w' := by
 have hu24 := Try.underlying24
 have HR0_1 := Y0.mk hr0_1
 have HC0_1 := Y0.mk hc0_1
 clear hr0_1 hc0_1
 have HR1_1 := Y0.mk hr1_1
 have HC1_1 := Y0.mk hc1_1
 clear hr1_1 hc1_1
 have HB := Y0.mk (Below.refl w.heap.size w)
 have H : ((Ym.f a0_0 l0_1).bind fun t_0 => (if t_0 = 0 then ((Ym.f a1_0 l1_1).bind fun t_1 => (some t_1)) else (some t_0))) = some r := h
 clear h
 obtain ⟨t_0, A30, H⟩ := bS H
 replace H : (if t_0 = 0 then ((Ym.f a1_0 l1_1).bind fun t_1 => (some t_1)) else (some t_0)) = some r := H
 have A3 := Y0.mk A30
 clear A30
 by_cases c4 : t_0 = 0
 ·rw [if_pos c4] at H
  have c4b0 := bqT c4
  have c4b1 := bnF c4
  clear c4
  obtain ⟨t_1, A50, H⟩ := bS H
  replace H : (some t_1) = some r := H
  have A5 := Y0.mk A50
  clear A50
  obtain rfl := Option.some.inj H
  go_enter Try.func76, Try.ntmps76
  go_wp2_with (first | ((with_reducible refine Ye (N := 2) rfl ?_); refine Yf ?hg (N := 2) ?hd (cs := #[.int .i64 a0_0, .slice A0_1 l0_1.length c0_1]) (t := 24) ?hr ?_; (case hd => rfl); (case hg => rfl); (case hr => first | (go_simp; done) | (go_simp; rfl)); intro g_1 hg w6 hbox hb; have n0_ := Y0.mk (Y5 (hU HB.out) hb); have n1_ := Y0.mk (hbox); have n2_ := gE hg HB; have n3_ := gE hg HB; clear HB; have HB := n0_; have B_0 := n1_; have W_1 := n2_; have G_0 := n3_; clear n0_ n1_ n2_ n3_; clear hb hbox hg) | ((with_reducible refine Ye (N := 3) rfl ?_); refine Yf ?hg (N := 3) ?hd (cs := #[.int .i64 a1_0, .slice A1_1 l1_1.length c1_1]) (t := 24) ?hr ?_; (case hd => rfl); (case hg => rfl); (case hr => first | (go_simp; done) | (go_simp; rfl)); intro g_0 hg w7 hbox hb; have n0_ := Y0.mk (Y3 (bU B_0.out) hb); have n1_ := Y0.mk (Y5 (hU HB.out) hb); have n2_ := Y0.mk (hbox); have n3_ := gE hg HB; have n4_ := gE hg HB; have n5_ := gL hg B_0; have n6_ := gG hg B_0; clear B_0; clear HB; have B_0 := n0_; have HB := n1_; have B_1 := n2_; have W_0 := n3_; have G_1 := n4_; have N_1 := n5_; have N_0 := n6_; clear n0_ n1_ n2_ n3_ n4_ n5_ n6_; clear hb hbox hg; have hnb8 := N_1.out; have hnc8 := N_0.out; have z_0 := Y2 B_0.out; have f_2 := Y4 B_0.out) | ((with_reducible refine Yd (f := 29) rfl ?_); refine goesA (some 7) Try.func29 #[.agg #[.int .i64 a0_0, .slice A0_1 l0_1.length c0_1]] ?_; (with_reducible refine (Ym.calls a0_0 _ _ l0_1 t_0 _ ?side1 ?side2 A3.out).mono ?_); (case side1 => repeat (first | exact (Kd.C_below HR0_1.out HB.out) | (with_reducible refine Kd.C_alloc ?_ _) | (with_reducible refine Kd.C_drewN ?_ _) | (with_reducible refine Kd.C_drew ?_))); (case side2 => exact HC0_1.out); rintro e w10 ⟨rfl, hb⟩; refine ⟨_, rfl, ?_⟩; replace B_0 := Y0.mk (Y3 (bU B_0.out) hb); replace B_1 := Y0.mk (Y3 (bU B_1.out) hb); replace HB := Y0.mk (Y5 (hU HB.out) hb); (try clear hb); (try clear hb2); (try clear hk); (try clear hi); have z_1 := Y2 B_1.out; have f_1 := Y4 B_1.out) | ((with_reducible refine Yd (f := 29) rfl ?_); refine goesA (some 12) Try.func29 #[.agg #[.int .i64 a1_0, .slice A1_1 l1_1.length c1_1]] ?_; (with_reducible refine (Ym.calls a1_0 _ _ l1_1 t_1 _ ?side1 ?side2 A5.out).mono ?_); (case side1 => repeat (first | exact (Kd.C_below HR1_1.out HB.out) | (with_reducible refine Kd.C_alloc ?_ _) | (with_reducible refine Kd.C_drewN ?_ _) | (with_reducible refine Kd.C_drew ?_))); (case side2 => exact HC1_1.out); rintro e w12 ⟨rfl, hb⟩; refine ⟨_, rfl, ?_⟩; replace B_0 := Y0.mk (Y3 (bU B_0.out) hb); replace B_1 := Y0.mk (Y3 (bU B_1.out) hb); replace HB := Y0.mk (Y5 (hU HB.out) hb); (try clear hb); (try clear hb2); (try clear hk); (try clear hi)))
  go_ret
  exact ⟨reT, hU HB.out⟩
 ·rw [if_neg c4] at H
  have c4b0 := bqF c4
  have c4b1 := bnT c4
  obtain rfl := Option.some.inj H
  go_enter Try.func76, Try.ntmps76
  go_wp2_with (first | ((with_reducible refine Ye (N := 2) rfl ?_); refine Yf ?hg (N := 2) ?hd (cs := #[.int .i64 a0_0, .slice A0_1 l0_1.length c0_1]) (t := 24) ?hr ?_; (case hd => rfl); (case hg => rfl); (case hr => first | (go_simp; done) | (go_simp; rfl)); intro g_1 hg w13 hbox hb; have n0_ := Y0.mk (Y5 (hU HB.out) hb); have n1_ := Y0.mk (hbox); have n2_ := gE hg HB; have n3_ := gE hg HB; clear HB; have HB := n0_; have B_0 := n1_; have W_1 := n2_; have G_0 := n3_; clear n0_ n1_ n2_ n3_; clear hb hbox hg) | ((with_reducible refine Ye (N := 3) rfl ?_); refine Yf ?hg (N := 3) ?hd (cs := #[.int .i64 a1_0, .slice A1_1 l1_1.length c1_1]) (t := 24) ?hr ?_; (case hd => rfl); (case hg => rfl); (case hr => first | (go_simp; done) | (go_simp; rfl)); intro g_0 hg w14 hbox hb; have n0_ := Y0.mk (Y3 (bU B_0.out) hb); have n1_ := Y0.mk (Y5 (hU HB.out) hb); have n2_ := Y0.mk (hbox); have n3_ := gE hg HB; have n4_ := gE hg HB; have n5_ := gL hg B_0; have n6_ := gG hg B_0; clear B_0; clear HB; have B_0 := n0_; have HB := n1_; have B_1 := n2_; have W_0 := n3_; have G_1 := n4_; have N_1 := n5_; have N_0 := n6_; clear n0_ n1_ n2_ n3_ n4_ n5_ n6_; clear hb hbox hg; have hnb15 := N_1.out; have hnc15 := N_0.out; have z_2 := Y2 B_0.out; have f_0 := Y4 B_0.out) | ((with_reducible refine Yd (f := 29) rfl ?_); refine goesA (some 7) Try.func29 #[.agg #[.int .i64 a0_0, .slice A0_1 l0_1.length c0_1]] ?_; (with_reducible refine (Ym.calls a0_0 _ _ l0_1 t_0 _ ?side1 ?side2 A3.out).mono ?_); (case side1 => repeat (first | exact (Kd.C_below HR0_1.out HB.out) | (with_reducible refine Kd.C_alloc ?_ _) | (with_reducible refine Kd.C_drewN ?_ _) | (with_reducible refine Kd.C_drew ?_))); (case side2 => exact HC0_1.out); rintro e w17 ⟨rfl, hb⟩; refine ⟨_, rfl, ?_⟩; replace B_0 := Y0.mk (Y3 (bU B_0.out) hb); replace B_1 := Y0.mk (Y3 (bU B_1.out) hb); replace HB := Y0.mk (Y5 (hU HB.out) hb); (try clear hb); (try clear hb2); (try clear hk); (try clear hi)))
  go_ret
  exact ⟨reT, hU HB.out⟩
end Go.Proofs.Yteopkkoblbmggaa.P
end

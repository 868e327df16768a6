/- Texts of this claim in one: VP34, VOpen, VAwakeR, VStfB, VStfC, VSamR; no condition. -/
import Derived.Test.YteopkkoblbmggaaQAAC
import Derived.Test.YteopkkoblbmggaaQAAE
import Derived.Test.YteopkkoblbmggaaQAAI
import Derived.Test.YteopkkoblbmggaaQAAB
import Derived.OpenShut
import Derived.SizedLaws
import Derived.ChangeArms
import Derived.Test.YteopkkoblbmggaaQAAO
import Derived.Test.YteopkkoblbmggaaQAAH
import Derived.Test.YteopkkoblbmggaaQAAL
import Derived.Test.YteopkkoblbmggaaQAAK
import Derived.Test.YteopkkoblbmggaaQAAN
import Derived.Test.YteopkkoblbmggaaQAAM
section
namespace Go.Proofs.Yteopkkoblbmggaa.P
open Go.RowKit Go.Proofs.YteopkkoblbmggaaW.PrintWords Go.Proofs.YteopkkoblbmggaaW.PrintLast Go.Proofs.YteopkkoblbmggaaW.PrintMore
attribute [local go_sem] YR YT Y11 Y12 YI YJ YS YU
set_option linter.unusedVariables false
set_option linter.unusedSimpArgs false
attribute [local go_sem high] eqA30
def Yi.l0 : Nat → List (S30) → List (S30) → Int → Option (Bool)
 | 0, _, _, _ => none
 | k + 1, x0, x1, x5 => if x5 < (x0.length : Int) then (if 0 ≤ x5 then (if x5 < (x1.length : Int) then (if ((!(((Y8 x0 x5).f0.f0) == ((Y8 x1 x5).f0.f0)) || (!(((Y8 x0 x5).f0.f1) == ((Y8 x1 x5).f0.f1)))) || (!(((Y8 x0 x5).f1) == ((Y8 x1 x5).f1)) || ((!(((Y8 x0 x5).f2.f0) == ((Y8 x1 x5).f2.f0)) || (!(((Y8 x0 x5).f2.f1) == ((Y8 x1 x5).f2.f1)))) || (!(((Y8 x0 x5).f3) == ((Y8 x1 x5).f3)) || ((!(((Y8 x0 x5).f4.f0) == ((Y8 x1 x5).f4.f0)) || (!(((Y8 x0 x5).f4.f1) == ((Y8 x1 x5).f4.f1)) || (!(((Y8 x0 x5).f4.f2) == ((Y8 x1 x5).f4.f2)) || (!(((Y8 x0 x5).f4.f3) == ((Y8 x1 x5).f4.f3)) || (!(((Y8 x0 x5).f4.f4) == ((Y8 x1 x5).f4.f4)) || (!(((Y8 x0 x5).f4.f5) == ((Y8 x1 x5).f4.f5)) || (!(((Y8 x0 x5).f4.f6) == ((Y8 x1 x5).f4.f6)))))))))))))) = true then (some false) else (Yi.l0 k x0 x1 (wrap64 (x5 + 1)))) else (none)) else (none)) else (some true)
def Yi.f (k : Nat) (l0 : List (S30)) (l1 : List (S30)) : Option (Bool) := if (l0.length : Int) = (l1.length : Int) then (Yi.l0 k l0 l1 0) else (some false)
theorem Yi.mono_l : ∀ k, (∀ y0 y1 y2, LeO (Yi.l0 k y0 y1 y2) (Yi.l0 (k + 1) y0 y1 y2))
 | 0 => fun _ _ _ r h => by simp [Yi.l0] at h
 | k + 1 => by
  have ih0 := Yi.mono_l k
  ·intro y0 y1 y2
   unfold Yi.l0
   repeat' first
   | (with_reducible exact ih0 _ _ _)
   | (with_reducible exact LeO.refl _)
   | (with_reducible exact LeO.none _)
   | (with_reducible refine LeO.ite ?_ ?_)
   | (with_reducible refine LeO.bind ?_ (fun _ => ?_))
theorem Yi.mono : ∀ a0 a1 k, LeO (Yi.f k a0 a1) (Yi.f (k + 1) a0 a1) := by
 intro a0 a1 k
 have ih0 := Yi.mono_l k
 unfold Yi.f
 repeat' first
   | (with_reducible exact ih0 _ _ _)
   | (with_reducible exact LeO.refl _)
   | (with_reducible exact LeO.none _)
   | (with_reducible refine LeO.ite ?_ ?_)
   | (with_reducible refine LeO.bind ?_ (fun _ => ?_))
set_option maxHeartbeats 8000000 in
set_option maxRecDepth 100000 in
theorem Yi.calls (k : Nat) (A0 : Option Addr) (c0 : Nat) (l0 : List (S30)) (A1 : Option Addr) (c1 : Nat) (l1 : List (S30)) (r : Bool) (w : World) (hr0 : Kd.C k30 w A0 l0.length l0) (hc0 : l0.length ≤ c0) (hr1 : Kd.C k30 w A1 l1.length l1) (hc1 : l1.length ≤ c1) (h : Yi.f k l0 l1 = some r) :
  Calls Try.prog 30 #[.slice A0 l0.length c0, .slice A1 l1.length c1] w fun e w' => e = .returned (.bool r) ∧ Drawn0 w w' := by
 have hu30 := Try.underlying30
 have HR0 := Y0.mk hr0
 have HC0 := Y0.mk hc0
 clear hr0 hc0
 have HR1 := Y0.mk hr1
 have HC1 := Y0.mk hc1
 clear hr1 hc1
 have H : (if (l0.length : Int) = (l1.length : Int) then (Yi.l0 k l0 l1 0) else (some false)) = some r := h
 clear h
 by_cases c3 : (l0.length : Int) = (l1.length : Int)
 ·rw [if_pos c3] at H
  have c3b0 := bqT c3
  have c3b1 := bnF c3
  have c3b2 : (l0.length == l1.length) = true := by first | simpa using c3 | (simp at c3 ⊢; omega)
  clear c3
  have H' := Y0.mk H
  clear H
  go_enter Try.func30, Try.ntmps30
  go_wp2
  repeat (go_quiet (fail); try go_wp2)
  go_loopg [5] k (fun kq v5 w' => ∃ (x5_1 : Int), v5 = .int .i64 x5_1 ∧ Y0 (Yi.l0 kq l0 l1 x5_1 = some r) ∧ Y0 (kq ≤ k) ∧ Drawn0 w w')
  case atStart => exact ⟨(0), reS, H', ⟨Nat.le_refl _⟩, dS⟩
  case round =>
   clear H'
   try clear c1
   try clear p2
   try clear c3
   try clear c3b0
   try clear c3b1
   try clear c3b2
   obtain ⟨x5_1, rfl, HA, HK1, ⟨m1, rfl⟩⟩ := hrel
   cases gk with
   | zero => exact absurd HA.out (by simp [Yi.l0])
   | succ k1 =>
    have H := HA.out
    clear HA
    simp only [Yi.l0] at H
    by_cases c4 : x5_1 < (l0.length : Int)
    ·rw [if_pos c4] at H
     have c4b0 := decide_eq_true c4
     clear c4
     obtain ⟨c5, H⟩ := iS H
     have c5b0 := decide_eq_true c5
     clear c5
     obtain ⟨c6, H⟩ := iS H
     have c6b0 := decide_eq_true c6
     clear c6
     by_cases c7 : ((!(((Y8 l0 x5_1).f0.f0) == ((Y8 l1 x5_1).f0.f0)) || (!(((Y8 l0 x5_1).f0.f1) == ((Y8 l1 x5_1).f0.f1)))) || (!(((Y8 l0 x5_1).f1) == ((Y8 l1 x5_1).f1)) || ((!(((Y8 l0 x5_1).f2.f0) == ((Y8 l1 x5_1).f2.f0)) || (!(((Y8 l0 x5_1).f2.f1) == ((Y8 l1 x5_1).f2.f1)))) || (!(((Y8 l0 x5_1).f3) == ((Y8 l1 x5_1).f3)) || ((!(((Y8 l0 x5_1).f4.f0) == ((Y8 l1 x5_1).f4.f0)) || (!(((Y8 l0 x5_1).f4.f1) == ((Y8 l1 x5_1).f4.f1)) || (!(((Y8 l0 x5_1).f4.f2) == ((Y8 l1 x5_1).f4.f2)) || (!(((Y8 l0 x5_1).f4.f3) == ((Y8 l1 x5_1).f4.f3)) || (!(((Y8 l0 x5_1).f4.f4) == ((Y8 l1 x5_1).f4.f4)) || (!(((Y8 l0 x5_1).f4.f5) == ((Y8 l1 x5_1).f4.f5)) || (!(((Y8 l0 x5_1).f4.f6) == ((Y8 l1 x5_1).f4.f6)))))))))))))) = true
     ·rw [if_pos c7] at H
      have c7b0 : ((!(((Y8 l0 x5_1).f0.f0) == ((Y8 l1 x5_1).f0.f0)) || (!(((Y8 l0 x5_1).f0.f1) == ((Y8 l1 x5_1).f0.f1)))) || (!(((Y8 l0 x5_1).f1) == ((Y8 l1 x5_1).f1)) || ((!(((Y8 l0 x5_1).f2.f0) == ((Y8 l1 x5_1).f2.f0)) || (!(((Y8 l0 x5_1).f2.f1) == ((Y8 l1 x5_1).f2.f1)))) || (!(((Y8 l0 x5_1).f3) == ((Y8 l1 x5_1).f3)) || ((!(((Y8 l0 x5_1).f4.f0) == ((Y8 l1 x5_1).f4.f0)) || (!(((Y8 l0 x5_1).f4.f1) == ((Y8 l1 x5_1).f4.f1)) || (!(((Y8 l0 x5_1).f4.f2) == ((Y8 l1 x5_1).f4.f2)) || (!(((Y8 l0 x5_1).f4.f3) == ((Y8 l1 x5_1).f4.f3)) || (!(((Y8 l0 x5_1).f4.f4) == ((Y8 l1 x5_1).f4.f4)) || (!(((Y8 l0 x5_1).f4.f5) == ((Y8 l1 x5_1).f4.f5)) || (!(((Y8 l0 x5_1).f4.f6) == ((Y8 l1 x5_1).f4.f6)))))))))))))) = true := c7
      clear c7
      obtain rfl := Option.some.inj H
      have p543 : 0 ≤ (x5_1 : Int) := of_decide_eq_true (by first | (with_reducible assumption) | assumption)
      have q543 : x5_1 < (l0.length : Int) := of_decide_eq_true (by first | (with_reducible assumption) | assumption)
      obtain ⟨d_0, e543, m_3, m_4, m_f, m_m, m_b, m_2, m_k, m_8, m_l, m_o, m_p, m_c, m_0⟩ := Y1i HR0.out x5_1 p543 q543
      cases e543
      replace p543 := eq_true p543
      replace q543 := eq_true q543
      have p544 : 0 ≤ (x5_1 : Int) := of_decide_eq_true (by first | (with_reducible assumption) | assumption)
      have q544 : x5_1 < (l1.length : Int) := of_decide_eq_true (by first | (with_reducible assumption) | assumption)
      obtain ⟨d_1, e544, m_i, m_7, m_a, m_d, m_6, m_e, m_n, m_1, m_j, m_5, m_h, m_g, m_9⟩ := Y1i HR1.out x5_1 p544 q544
      cases e544
      replace p544 := eq_true p544
      replace q544 := eq_true q544
      go_wp2
      repeat (go_quiet (fail); try go_wp2)
      go_ret
      exact ⟨reS, dS⟩
     ·rw [if_neg c7] at H
      have c7b0 : ((!(((Y8 l0 x5_1).f0.f0) == ((Y8 l1 x5_1).f0.f0)) || (!(((Y8 l0 x5_1).f0.f1) == ((Y8 l1 x5_1).f0.f1)))) || (!(((Y8 l0 x5_1).f1) == ((Y8 l1 x5_1).f1)) || ((!(((Y8 l0 x5_1).f2.f0) == ((Y8 l1 x5_1).f2.f0)) || (!(((Y8 l0 x5_1).f2.f1) == ((Y8 l1 x5_1).f2.f1)))) || (!(((Y8 l0 x5_1).f3) == ((Y8 l1 x5_1).f3)) || ((!(((Y8 l0 x5_1).f4.f0) == ((Y8 l1 x5_1).f4.f0)) || (!(((Y8 l0 x5_1).f4.f1) == ((Y8 l1 x5_1).f4.f1)) || (!(((Y8 l0 x5_1).f4.f2) == ((Y8 l1 x5_1).f4.f2)) || (!(((Y8 l0 x5_1).f4.f3) == ((Y8 l1 x5_1).f4.f3)) || (!(((Y8 l0 x5_1).f4.f4) == ((Y8 l1 x5_1).f4.f4)) || (!(((Y8 l0 x5_1).f4.f5) == ((Y8 l1 x5_1).f4.f5)) || (!(((Y8 l0 x5_1).f4.f6) == ((Y8 l1 x5_1).f4.f6)))))))))))))) = false := by simpa using c7
      clear c7
      have H' := Y0.mk H
      clear H
      have p543 : 0 ≤ (x5_1 : Int) := of_decide_eq_true (by first | (with_reducible assumption) | assumption)
      have q543 : x5_1 < (l0.length : Int) := of_decide_eq_true (by first | (with_reducible assumption) | assumption)
      obtain ⟨d_0, e543, m_3, m_4, m_f, m_m, m_b, m_2, m_k, m_8, m_l, m_o, m_p, m_c, m_0⟩ := Y1i HR0.out x5_1 p543 q543
      cases e543
      replace p543 := eq_true p543
      replace q543 := eq_true q543
      have p544 : 0 ≤ (x5_1 : Int) := of_decide_eq_true (by first | (with_reducible assumption) | assumption)
      have q544 : x5_1 < (l1.length : Int) := of_decide_eq_true (by first | (with_reducible assumption) | assumption)
      obtain ⟨d_1, e544, m_i, m_7, m_a, m_d, m_6, m_e, m_n, m_1, m_j, m_5, m_h, m_g, m_9⟩ := Y1i HR1.out x5_1 p544 q544
      cases e544
      replace p544 := eq_true p544
      replace q544 := eq_true q544
      go_wp2
      repeat (go_quiet (fail); try go_wp2)
      go_roundg k1
      case measure => have := HK1.out; omega
      case rel => exact ⟨(wrap64 (x5_1 + 1)), reS, H', ⟨by have := HK1.out; omega⟩, dS⟩
    ·rw [if_neg c4] at H
     have c4b0 := decide_eq_false c4
     clear c4
     obtain rfl := Option.some.inj H
     go_wp2
     repeat (go_quiet (fail); try go_wp2)
     go_ret
     exact ⟨reS, dS⟩
 ·rw [if_neg c3] at H
  have c3b0 := bqF c3
  have c3b1 := bnT c3
  have c3b2 : (l0.length == l1.length) = false := by first | simpa using c3 | (simp at c3 ⊢; omega)
  obtain rfl := Option.some.inj H
  go_enter Try.func30, Try.ntmps30
  go_wp2
  repeat (go_quiet (fail); try go_wp2)
  go_ret
  exact ⟨reS, dS⟩
def YE.f (k : Nat) (a0_0 : Int) (l0_1 : List (S30)) (a1_0 : Int) (l1_1 : List (S30)) : Option (Bool) := if a0_0 = a1_0 then ((Yi.f k l0_1 l1_1).bind fun t_0 => (some t_0)) else (some false)
theorem YE.mono : ∀ a0 a1 a2 a3 k, LeO (YE.f k a0 a1 a2 a3) (YE.f (k + 1) a0 a1 a2 a3) := by
 intro a0 a1 a2 a3 k
 unfold YE.f
 repeat' first
   | (with_reducible exact Yi.mono _ _ _)
   | (with_reducible exact LeO.refl _)
   | (with_reducible exact LeO.none _)
   | (with_reducible refine LeO.ite ?_ ?_)
   | (with_reducible refine LeO.bind ?_ (fun _ => ?_))
set_option maxHeartbeats 8000000 in
set_option maxRecDepth 100000 in
theorem YE.calls (k : Nat) (a0_0 : Int) (A0_1 : Option Addr) (c0_1 : Nat) (l0_1 : List (S30)) (a1_0 : Int) (A1_1 : Option Addr) (c1_1 : Nat) (l1_1 : List (S30)) (r : Bool) (w : World) (hr0_1 : Kd.C k30 w A0_1 l0_1.length l0_1) (hc0_1 : l0_1.length ≤ c0_1) (hr1_1 : Kd.C k30 w A1_1 l1_1.length l1_1) (hc1_1 : l1_1.length ≤ c1_1) (h : YE.f k a0_0 l0_1 a1_0 l1_1 = some r) :
  Calls Try.prog 21 #[.agg #[.int .i64 a0_0, .slice A0_1 l0_1.length c0_1], .agg #[.int .i64 a1_0, .slice A1_1 l1_1.length c1_1]] w fun e w' => e = .returned (.bool r) ∧ Below w.heap.size w w' := by
 have hu24 := Try.underlying24
 have HR0_1 := Y0.mk hr0_1
 have HC0_1 := Y0.mk hc0_1
 clear hr0_1 hc0_1
 have HR1_1 := Y0.mk hr1_1
 have HC1_1 := Y0.mk hc1_1
 clear hr1_1 hc1_1
 have HB := Y0.mk (Below.refl w.heap.size w)
 have H : (if a0_0 = a1_0 then ((Yi.f k l0_1 l1_1).bind fun t_0 => (some t_0)) else (some false)) = some r := h
 clear h
 by_cases c3 : a0_0 = a1_0
 ·rw [if_pos c3] at H
  have c3b0 := bqT c3
  have c3b1 := bnF c3
  clear c3
  obtain ⟨t_0, A40, H⟩ := bS H
  replace H : (some t_0) = some r := H
  have A4 := Y0.mk A40
  clear A40
  obtain rfl := Option.some.inj H
  go_enter Try.func21, Try.ntmps21
  go_wp2_with (first | ((with_reducible refine Ye (N := 2) rfl ?_); refine Yh ?hg (N := 2) ?hd (cs := #[.int .i64 a0_0, .slice A0_1 l0_1.length c0_1]) (t := 24) ?hr ?_; (case hd => rfl); (case hg => rfl); (case hr => first | (go_simp; done) | (go_simp; rfl)); intro g_0 hg w5 hbox hb; have n0_ := Y0.mk (Y3 (hU HB.out) hb); have n1_ := Y0.mk (hbox); have n2_ := gE hg HB; have n3_ := gE hg HB; clear HB; have HB := n0_; have B_0 := n1_; have W_0 := n2_; have G_0 := n3_; clear n0_ n1_ n2_ n3_; clear hb hbox hg) | ((with_reducible refine Ye (N := 3) rfl ?_); refine Yh ?hg (N := 3) ?hd (cs := #[.int .i64 a1_0, .slice A1_1 l1_1.length c1_1]) (t := 24) ?hr ?_; (case hd => rfl); (case hg => rfl); (case hr => first | (go_simp; done) | (go_simp; rfl)); intro g_1 hg w6 hbox hb; have n0_ := Y0.mk (Y1 (bU B_0.out) hb); have n1_ := Y0.mk (Y3 (hU HB.out) hb); have n2_ := Y0.mk (hbox); have n3_ := gE hg HB; have n4_ := gE hg HB; have n5_ := gL hg B_0; have n6_ := gG hg B_0; clear B_0; clear HB; have B_0 := n0_; have HB := n1_; have B_1 := n2_; have W_1 := n3_; have G_1 := n4_; have N_0 := n5_; have N_1 := n6_; clear n0_ n1_ n2_ n3_ n4_ n5_ n6_; clear hb hbox hg; have hnb7 := N_0.out; have hnc7 := N_1.out; have z_3 := Y2 B_0.out; have f_3 := Y7 B_0.out; have z_2 := Y2 B_1.out; have f_0 := Y7 B_1.out) | (go_at_call 30; (with_reducible refine (Yi.calls k _ _ l0_1 _ _ l1_1 t_0 _ ?side1 ?side2 ?side3 ?side4 A4.out).mono ?_); (case side1 => repeat (first | exact (Kd.C_below HR0_1.out HB.out) | (with_reducible refine Kd.C_alloc ?_ _) | (with_reducible refine Kd.C_drewN ?_ _) | (with_reducible refine Kd.C_drew ?_))); (case side2 => exact HC0_1.out); (case side3 => repeat (first | exact (Kd.C_below HR1_1.out HB.out) | (with_reducible refine Kd.C_alloc ?_ _) | (with_reducible refine Kd.C_drewN ?_ _) | (with_reducible refine Kd.C_drew ?_))); (case side4 => exact HC1_1.out); rintro e w' ⟨rfl, ⟨nd, rfl⟩⟩))
  go_ret
  exact ⟨reT, hU HB.out⟩
 ·rw [if_neg c3] at H
  have c3b0 := bqF c3
  have c3b1 := bnT c3
  obtain rfl := Option.some.inj H
  go_enter Try.func21, Try.ntmps21
  go_wp2_with (first | ((with_reducible refine Ye (N := 2) rfl ?_); refine Yh ?hg (N := 2) ?hd (cs := #[.int .i64 a0_0, .slice A0_1 l0_1.length c0_1]) (t := 24) ?hr ?_; (case hd => rfl); (case hg => rfl); (case hr => first | (go_simp; done) | (go_simp; rfl)); intro g_0 hg w10 hbox hb; have n0_ := Y0.mk (Y3 (hU HB.out) hb); have n1_ := Y0.mk (hbox); have n2_ := gE hg HB; have n3_ := gE hg HB; clear HB; have HB := n0_; have B_0 := n1_; have W_0 := n2_; have G_0 := n3_; clear n0_ n1_ n2_ n3_; clear hb hbox hg) | ((with_reducible refine Ye (N := 3) rfl ?_); refine Yh ?hg (N := 3) ?hd (cs := #[.int .i64 a1_0, .slice A1_1 l1_1.length c1_1]) (t := 24) ?hr ?_; (case hd => rfl); (case hg => rfl); (case hr => first | (go_simp; done) | (go_simp; rfl)); intro g_1 hg w11 hbox hb; have n0_ := Y0.mk (Y1 (bU B_0.out) hb); have n1_ := Y0.mk (Y3 (hU HB.out) hb); have n2_ := Y0.mk (hbox); have n3_ := gE hg HB; have n4_ := gE hg HB; have n5_ := gL hg B_0; have n6_ := gG hg B_0; clear B_0; clear HB; have B_0 := n0_; have HB := n1_; have B_1 := n2_; have W_1 := n3_; have G_1 := n4_; have N_0 := n5_; have N_1 := n6_; clear n0_ n1_ n2_ n3_ n4_ n5_ n6_; clear hb hbox hg; have hnb12 := N_0.out; have hnc12 := N_1.out; have z_1 := Y2 B_0.out; have f_2 := Y7 B_0.out; have z_0 := Y2 B_1.out; have f_1 := Y7 B_1.out))
  go_ret
  exact ⟨reT, hU HB.out⟩
end Go.Proofs.Yteopkkoblbmggaa.P
end
section
set_option linter.unusedVariables false
namespace Go.Proofs.Yteopkkoblbmggaa.Open
open Go.ChangeShapes Go.WideShapes Go.RowKit Go.Proofs.YteopkkoblbmggaaW.PrintWords
def Opens {α : Type} (P : Program) (t : TypeId) (d : Kd α) (ok : α → Prop) : Prop :=
  P.cellsOf t = d.sz ∧ ∀ (H : Type) (enc : TypeId × Value → H) (w : World) (sp : Nat → Bool) (hd : Bool) (fuel : Nat) (cs : List Value) (x : DataW H × List MemPlace),
    DataW.trod enc P w 0 sp hd fuel t cs = some x → (∀ n ∈ x.1.weights P t, n ≤ 140737488351232) → ∃ a, d.K w a cs ∧ ok a
def okI (n : Int) : Prop := -9223372036854775808 ≤ n ∧ n ≤ 9223372036854775807
theorem Y3Q {P : Program} {t : TypeId} (ht : P.underlying t = some (.int .i64)) (hc : P.cellsOf t = 1) : Opens P t (Kd.int .i64) okI :=
  ⟨hc, fun H enc w sp hd fuel cs x h _ => by
    obtain ⟨n, rfl, _, hw⟩ := DataW.trod_int ht h
    exact ⟨n, rfl, bounds_i64 hw⟩⟩
theorem Y3j {P : Program} {t : TypeId} (ht : P.underlying t = some .bool) (hc : P.cellsOf t = 1) : Opens P t Kd.bool (fun _ => True) :=
  ⟨hc, fun H enc w sp hd fuel cs x h _ => by
    obtain ⟨n, rfl, _⟩ := DataW.trod_bool ht h
    exact ⟨n, rfl, trivial⟩⟩
theorem Y2f {H : Type} {P : Program} {e : TypeId} {n : Nat} : ∀ {ds : List (DataW H)} {d : DataW H}, d ∈ ds → n ∈ d.weights P e → n ∈ DataW.weightsAll P e ds
  | d0 :: ds, d, hd, hn => by
    rw [DataW.weightsAll, List.mem_append]
    rcases List.mem_cons.1 hd with rfl | hd
    · exact .inl hn
    · exact .inr (Y2f hd hn)
theorem Y2Y {α : Type} {P : Program} {t e : TypeId} {d : Kd α} {ok : α → Prop} (ht : P.underlying t = some (.slice e)) (hc : P.cellsOf t = 1) {B : Nat} (hB : P.bytesOf e = B) (ho : Opens P e d ok) :
    Opens P t (Kd.slice e d) (fun xs => xs.length ≤ maxLen ∧ xs.length * B ≤ 140737488351232 ∧ ∀ a ∈ xs, ok a) := by
  refine ⟨hc, fun H enc w sp hd fuel cs x h hw => ?_⟩
  rcases DataW.trod_slice ht h with ⟨rfl, _⟩ | ⟨a, len, cap, elems, rest, n, _, rfl, rfl, _, hlc, hcm, hel, helem, _, _⟩
  · exact ⟨[], ⟨none, 0, rfl, Nat.le_refl _, Kd.C_nil d w⟩, by simp, by simp, by simp⟩
  · have hwt : ∀ m ∈ (elems.length + rest.length) * P.bytesOf e :: (DataW.weightsAll P e (elems.map (·.1)) ++ DataW.weightsAll P e (rest.map (·.1))), m ≤ 140737488351232 := by
      intro m hm
      refine hw m ?_
      simp only [DataW.weights, ht, List.length_map]
      exact hm
    have key : ∀ i : Fin len, ∃ p : α, ok p ∧ ∃ c : List Value, c.length = d.sz ∧ d.K w p c ∧ ∀ j u, c[j]? = some u → w.cell? (a.add (i.1 * d.sz + j)) = some u := by
      intro i
      have hi := helem i.1 i.2
      have hlt : i.1 < elems.length := by have := i.2; omega
      rw [List.getElem?_eq_getElem hlt] at hi
      obtain ⟨c, hc1, hc2⟩ := Option.bind_eq_some_iff.1 hi
      obtain ⟨_, hl, hcell⟩ := World.cells?_some hc1
      obtain ⟨p, hp, hok⟩ := ho.2 H enc w sp hd n c _ hc2 (fun m hm => hwt m (List.mem_cons_of_mem _ (List.mem_append_left _ (Y2f (List.mem_map.2 ⟨_, List.getElem_mem hlt, rfl⟩) hm))))
      refine ⟨p, hok, c, by rw [hl, ho.1], hp, fun j u hu => ?_⟩
      have hj : j < P.cellsOf e := by rw [← hl]; exact (List.getElem?_eq_some_iff.1 hu).1
      have hh := hcell j hj
      rw [hu, Addr.add_add, ho.1] at hh
      exact hh
    have hlen : (List.ofFn fun i : Fin len => Classical.choose (key i)).length = len := List.length_ofFn
    have hmx : len ≤ 9223372036854775807 := by unfold maxLen at hcm; omega
    refine ⟨List.ofFn fun i : Fin len => Classical.choose (key i), ⟨some a, cap, by rw [hlen], by rw [hlen]; exact hlc, ?_⟩, by rw [hlen]; unfold maxLen at hcm ⊢; omega, ?_, ?_⟩
    · refine ⟨rfl, by rw [hlen]; exact hmx, fun _ => ⟨a, rfl, fun j p hp => ?_⟩⟩
      rw [List.getElem?_ofFn] at hp
      split at hp
      · rename_i hj
        injection hp with hp
        subst hp
        exact (Classical.choose_spec (key ⟨j, hj⟩)).2
      · cases hp
    · rw [hlen, ← hB]
      have := hwt _ List.mem_cons_self
      exact Nat.le_trans (Nat.mul_le_mul_right _ (by omega)) this
    · intro p hp
      obtain ⟨i, rfl⟩ := List.mem_ofFn.1 hp
      exact (Classical.choose_spec (key i)).1
def Y4i {α : Type} (P : Program) (fs : List Field) (o : Nat) (d : Kd α) (ok : α → Prop) : Prop :=
  ∀ (H : Type) (enc : TypeId × Value → H) (w : World) (sp : Nat → Bool) (hd : Bool) (fuel : Nat) (cs : List Value) (ys : List (DataW H × List MemPlace)),
    ys.length = fs.length → (∀ (i : Nat) (f : Field), fs[i]? = some f → DataW.trod enc P w 0 sp hd fuel f.type ((cs.drop f.offset).take (P.cellsOf f.type)) = ys[i]?) → cs.length = o + d.sz →
    (∀ n ∈ DataW.weightsEach P (fs.map (·.type)) (ys.map (·.1)), n ≤ 140737488351232) → ∃ a, d.K w a (cs.drop o) ∧ ok a
theorem Y1y {α : Type} {P : Program} {f : Field} {o : Nat} {d : Kd α} {ok : α → Prop} (hf : f.offset = o) (ho : Opens P f.type d ok) : Y4i P [f] o d ok := by
  intro H enc w sp hd fuel cs ys hl hy hcs hw
  match ys, hl with
  | [y], _ =>
    have h := hy 0 f rfl
    have e : (cs.drop f.offset).take (P.cellsOf f.type) = cs.drop o := by rw [hf, ho.1]; exact List.take_of_length_le (by rw [List.length_drop]; omega)
    rw [e] at h
    exact ho.2 H enc w sp hd fuel _ y h (fun n hn => hw n (by simpa [DataW.weightsEach] using hn))
theorem YM {α β : Type} {P : Program} {f : Field} {fs : List Field} {o : Nat} {d : Kd α} {d' : Kd β} {ok : α → Prop} {ok' : β → Prop} (hf : f.offset = o) (ho : Opens P f.type d ok) (hr : Y4i P fs (o + d.sz) d' ok') :
    Y4i P (f :: fs) o (Kd.pair d d') (fun a => ok a.1 ∧ ok' a.2) := by
  intro H enc w sp hd fuel cs ys hl hy hcs hw
  match ys, hl with
  | y :: ys, hl =>
    have h := hy 0 f rfl
    have hcs' : cs.length = o + (d.sz + d'.sz) := hcs
    rw [hf, ho.1] at h
    obtain ⟨a, ka, oa⟩ := ho.2 H enc w sp hd fuel _ y h (fun n hn => hw n (by simp only [List.map_cons, DataW.weightsEach, List.mem_append]; exact .inl hn))
    obtain ⟨b, kb, ob⟩ := hr H enc w sp hd fuel cs ys (by simpa using hl) (fun i g hg => by simpa using hy (i + 1) g (by simpa using hg)) (by omega) (fun n hn => hw n (by simp only [List.map_cons, DataW.weightsEach, List.mem_append]; exact .inr hn))
    refine ⟨(a, b), ⟨_, _, ?_, ka, kb⟩, oa, ob⟩
    rw [← List.drop_drop, List.take_append_drop]
theorem Y1o {α β : Type} {P : Program} {t : TypeId} {fs : List Field} {d : Kd α} {ok : α → Prop} (ht : P.underlying t = some (.struct fs.toArray)) (hc : P.cellsOf t = d.sz) (ho : Y4i P fs 0 d ok) (f : β → α) (g : α → β) (hfg : ∀ a, f (g a) = a) :
    Opens P t (Kd.iso d f) (fun b => ok (f b)) := by
  refine ⟨hc, fun H enc w sp hd fuel cs x h hw => ?_⟩
  obtain ⟨xs, n, _, rfl, hl, hxl, hx⟩ := DataW.trod_struct ht h
  obtain ⟨a, ha, hok⟩ := ho H enc w sp hd n cs xs (by simpa using hxl) (fun i f hf => hx i f (by simpa using hf)) (by omega) (fun m hm => hw m (by simp only [DataW.weights, ht]; exact hm))
  refine ⟨g a, ?_, by show ok (f (g a)); rw [hfg]; exact hok⟩
  show d.K w (f (g a)) cs
  rw [hfg]
  exact ha
section
variable {H : Type} {enc : TypeId × Value → H} {P : Program} {W : World} {ts : List TypeId} {ds : List (DataW H)} {j : Nat} {t : TypeId} {v : Value} {dd : DataW H} {p : List MemPlace} {sp : Nat → Bool} {hd : Bool}
theorem Y2J {α : Type} {d : Kd α} {ok : α → Prop} {r : Reach} {b : Nat} {fs : Array Field} (ho : Opens P t d ok) (ht : P.underlying t = some (.struct fs)) (hv : Value.okWide P W r b t v)
    (hsz : (DataW.weightsEach P ts ds).all (· ≤ reachBytes) = true) (htj : ts[j]? = some t) (hdj : ds[j]? = some dd) (h : DataW.Trod enc P W 0 sp hd t v dd p) : ∃ (a : α) (cs : Array Value), v = .agg cs ∧ d.K W a cs.toList ∧ ok a := by
  obtain ⟨cs, rfl, _⟩ := okWide_struct ht hv
  obtain ⟨fuel, hf⟩ := h
  obtain ⟨a, ha, hok⟩ := ho.2 H enc W sp hd fuel _ _ hf (fun n hn => by
    have := List.all_eq_true.1 hsz _ (DataW.weights_mem_each htj hdj n hn)
    exact of_decide_eq_true this)
  exact ⟨a, cs, rfl, ha, hok⟩
end
end Go.Proofs.Yteopkkoblbmggaa.Open
end
section
set_option linter.unusedVariables false
namespace Go.Proofs.Yteopkkoblbmggaa.P
open Go.RowKit Go.Proofs.YteopkkoblbmggaaW.PrintWords Go.Proofs.YteopkkoblbmggaaW.PrintLast Go.Proofs.YteopkkoblbmggaaW.PrintMore
set_option maxRecDepth 100000 in
theorem Y4P : Y9.f 400 = some true := by decide +kernel
theorem Y2p (k : Nat) (hk : 400 ≤ k) : Y9.f k = some true := Y3M (fun k => Y9.mono k) hk Y4P
theorem Y2H (d : Int) (l : List S30) : Yg.f d l = some (decide (40 < l.length)) := by
  unfold Yg.f
  congr 1
  rw [decide_eq_decide]
  omega
end Go.Proofs.Yteopkkoblbmggaa.P
end
section
set_option linter.unusedVariables false
set_option linter.unusedSimpArgs false
namespace Go.Proofs.Yteopkkoblbmggaa.P
open Go.RowKit Go.Proofs.YteopkkoblbmggaaW.PrintWords Go.Proofs.YteopkkoblbmggaaW.PrintLast Go.Proofs.YteopkkoblbmggaaW.PrintMore
def insS (s : S26) : List S26 → List S26
  | [] => [s]
  | b :: B => if YV b s = true then b :: insS s B else if b.f0 = s.f0 ∧ b.f1 = s.f1 then b :: B else s :: b :: B
theorem Y4s (s : S26) : ∀ l, (insS s l).length ≤ l.length + 1
  | [] => by simp [insS]
  | b :: B => by
    have := Y4s s B
    unfold insS
    split
    · simp; omega
    · split <;> simp
theorem Y3w (s a : S26) : ∀ l, a ∈ insS s l ↔ a = s ∨ a ∈ l
  | [] => by simp [insS]
  | b :: B => by
    have ih := Y3w s a B
    unfold insS
    split
    · rw [List.mem_cons, ih, List.mem_cons]
      constructor
      · rintro (h | h | h)
        · exact Or.inr (Or.inl h)
        · exact Or.inl h
        · exact Or.inr (Or.inr h)
      · rintro (h | h | h)
        · exact Or.inr (Or.inl h)
        · exact Or.inl h
        · exact Or.inr (Or.inr h)
    · split
      · rename_i hq
        have : b = s := by cases b; cases s; simp at hq; simp [hq.1, hq.2]
        subst this
        simp
      · simp
theorem Y55 {a b : S26} (h : YV a b = false) (hn : ¬ (a.f0 = b.f0 ∧ a.f1 = b.f1)) : YV b a = true := by
  simp [YV, lessP] at *; omega
theorem Y2Q (s : S26) : ∀ l, l.Pairwise (fun a b => YV a b = true) → (insS s l).Pairwise (fun a b => YV a b = true)
  | [], _ => by simp [insS]
  | b :: B, h => by
    have hb := List.pairwise_cons.1 h
    unfold insS
    split
    · rename_i hl
      refine List.pairwise_cons.2 ⟨fun a ha => ?_, Y2Q s B hb.2⟩
      rcases (Y3w s a B).1 ha with rfl | ha
      · exact hl
      · exact hb.1 a ha
    · rename_i hl
      split
      · exact h
      · rename_i hn
        have hs := Y55 (by simpa using hl) hn
        refine List.pairwise_cons.2 ⟨fun a ha => ?_, h⟩
        rcases List.mem_cons.1 ha with rfl | ha
        · exact hs
        · exact Y27 hs (hb.1 a ha)
def sgT (p : Int) : List S26 → List S30 → List S26
  | out, [] => out
  | out, e :: t => sgT p (if e.f1 = p then insS e.f2 out else out) t
theorem Y3o (p : Int) : ∀ (t : List S30) (out : List S26), out.Pairwise (fun a b => YV a b = true) → (sgT p out t).Pairwise (fun a b => YV a b = true) ∧ (∀ a, a ∈ sgT p out t ↔ a ∈ out ∨ ∃ e ∈ t, e.f1 = p ∧ e.f2 = a) ∧ (sgT p out t).length ≤ out.length + t.length
  | [], out, h => ⟨h, fun a => by simp [sgT], by simp [sgT]⟩
  | e :: t, out, h => by
    unfold sgT
    by_cases hp : e.f1 = p
    · rw [if_pos hp]
      obtain ⟨i1, i2, i3⟩ := Y3o p t (insS e.f2 out) (Y2Q _ _ h)
      refine ⟨i1, fun a => ?_, by have := Y4s e.f2 out; simp; omega⟩
      rw [i2, Y3w]
      constructor
      · rintro ((h | h) | ⟨x, hx, h⟩)
        · exact Or.inr ⟨e, List.mem_cons_self, hp, h.symm⟩
        · exact Or.inl h
        · exact Or.inr ⟨x, List.mem_cons_of_mem _ hx, h⟩
      · rintro (h | ⟨x, hx, h1, h2⟩)
        · exact Or.inl (Or.inr h)
        · rcases List.mem_cons.1 hx with rfl | hx
          · exact Or.inl (Or.inl h2.symm)
          · exact Or.inr ⟨x, hx, h1, h2⟩
    · rw [if_neg hp]
      obtain ⟨i1, i2, i3⟩ := Y3o p t out h
      refine ⟨i1, fun a => ?_, by simp; omega⟩
      rw [i2]
      constructor
      · rintro (h | ⟨x, hx, h⟩)
        · exact Or.inl h
        · exact Or.inr ⟨x, List.mem_cons_of_mem _ hx, h⟩
      · rintro (h | ⟨x, hx, h1, h2⟩)
        · exact Or.inl h
        · rcases List.mem_cons.1 hx with rfl | hx
          · exact absurd h1 hp
          · exact Or.inr ⟨x, hx, h1, h2⟩
theorem Y3Y : ∀ {l1 l2 : List S26}, l1.Pairwise (fun a b => YV a b = true) → l2.Pairwise (fun a b => YV a b = true) → (∀ a, a ∈ l1 ↔ a ∈ l2) → l1 = l2
  | [], [], _, _, _ => rfl
  | [], y :: s, _, _, h => absurd ((h y).2 List.mem_cons_self) (by simp)
  | x :: r, [], _, _, h => absurd ((h x).1 List.mem_cons_self) (by simp)
  | x :: r, y :: s, h1, h2, h => by
    have p1 := List.pairwise_cons.1 h1
    have p2 := List.pairwise_cons.1 h2
    have e : x = y := by
      rcases List.mem_cons.1 ((h x).1 List.mem_cons_self) with e | hx
      · exact e
      · rcases List.mem_cons.1 ((h y).2 List.mem_cons_self) with e | hy
        · exact e.symm
        · have := Y27 (p1.1 y hy) (p2.1 x hx)
          rw [Y1E] at this; cases this
    subst e
    have ht : ∀ a, a ∈ r ↔ a ∈ s := fun a => by
      constructor
      · intro ha
        rcases List.mem_cons.1 ((h a).1 (List.mem_cons_of_mem _ ha)) with e | ha'
        · have := p1.1 a ha; rw [e, Y1E] at this; cases this
        · exact ha'
      · intro ha
        rcases List.mem_cons.1 ((h a).2 (List.mem_cons_of_mem _ ha)) with e | ha'
        · have := p2.1 a ha; rw [e, Y1E] at this; cases this
        · exact ha'
    rw [Y3Y p1.2 p2.2 ht]
theorem Y3F {l : List S30} {s : SG} : ∀ {j : Nat}, s ∈ sgF l j ↔ (lasF l j s.p s.c s.d).isSome = true
  | 0 => by simp [sgF, lasF]
  | j + 1 => by
    have ih := @Y3F l s j
    by_cases hj : j < l.length
    · have hs : sgF l (j + 1) = if (lasF l j l[j].f1 l[j].f2.f0 l[j].f2.f1).isSome = true then sgF l j else sgF l j ++ [⟨l[j].f1, l[j].f2.f0, l[j].f2.f1⟩] := by rw [sgF, dif_pos hj]
      have hf : lasF l (j + 1) s.p s.c s.d = if s.p = l[j].f1 ∧ s.c = l[j].f2.f0 ∧ s.d = l[j].f2.f1 then some l[j] else lasF l j s.p s.c s.d := by rw [lasF, dif_pos hj]
      rw [hs, hf]
      by_cases he : s.p = l[j].f1 ∧ s.c = l[j].f2.f0 ∧ s.d = l[j].f2.f1
      · rw [if_pos he]
        have hse : s = ⟨l[j].f1, l[j].f2.f0, l[j].f2.f1⟩ := by cases s; simp at he; simp [he.1, he.2.1, he.2.2]
        simp only [Option.isSome_some, iff_true]
        by_cases hq : (lasF l j l[j].f1 l[j].f2.f0 l[j].f2.f1).isSome = true
        · rw [if_pos hq, ih, he.1, he.2.1, he.2.2]; exact hq
        · rw [if_neg hq]; exact List.mem_append.2 (Or.inr (by simp [hse]))
      · rw [if_neg he, ← ih]
        by_cases hq : (lasF l j l[j].f1 l[j].f2.f0 l[j].f2.f1).isSome = true
        · rw [if_pos hq]
        · rw [if_neg hq, List.mem_append]
          constructor
          · rintro (h | h)
            · exact h
            · have : s = ⟨l[j].f1, l[j].f2.f0, l[j].f2.f1⟩ := by simpa using h
              exact absurd (by rw [this]; exact ⟨rfl, rfl, rfl⟩) he
          · exact Or.inl
    · have hs : sgF l (j + 1) = sgF l j := by rw [sgF, dif_neg hj]
      have hf : lasF l (j + 1) s.p s.c s.d = lasF l j s.p s.c s.d := by rw [lasF, dif_neg hj]
      rw [hs, hf]; exact ih
theorem Y3V (l : List S30) : ∀ j, (sgF l j).Nodup
  | 0 => by simp [sgF]
  | j + 1 => by
    have ih := Y3V l j
    unfold sgF
    split
    · split
      · exact ih
      · rename_i hj hq
        refine List.nodup_append.2 ⟨ih, by simp, fun a ha b hb => ?_⟩
        rintro rfl
        obtain rfl : a = ⟨l[j].f1, l[j].f2.f0, l[j].f2.f1⟩ := by simpa using hb
        exact hq (Y3F.1 ha)
    · exact ih
theorem Y5z {d : Int} {l : List S30} (h : rchkP d l = 0) : (isrt ltG (sgF l l.length)).Pairwise (fun a b => ltG a b = true) := by
  have hn : (isrt ltG (sgF l l.length)).Nodup := (Y1j ltG _).nodup_iff.2 (Y3V l _)
  have hs := Y22 swoG (sgF l l.length)
  have h1 := Y2v (Y1j ltG (sgF l l.length)) (oneS h l.length)
  rw [List.pairwise_iff_getElem] at hs ⊢
  intro i j hi hj hij
  cases e : ltG (isrt ltG (sgF l l.length))[i] (isrt ltG (sgF l l.length))[j]
  · have := h1 _ (List.getElem_mem hi) _ (List.getElem_mem hj) e (hs i j hi hj hij)
    have hq := List.getElem_inj hn |>.1 this
    omega
  · rfl
def toT (x : SG) : S26 := ⟨x.c, x.d⟩
theorem Y4J {d : Int} {l : List S30} (h : rchkP d l = 0) (p : Int) : ((isrt ltG (sgF l l.length)).filter (fun x => x.p == p)).map toT = sgT p [] l := by
  obtain ⟨t1, t2, _⟩ := Y3o p l [] List.Pairwise.nil
  refine Y3Y ?_ t1 (fun a => ?_)
  · rw [List.pairwise_map]
    exact (List.Pairwise.filter _ (Y5z h))
  · rw [t2, List.mem_map]
    constructor
    · rintro ⟨x, hx, rfl⟩
      obtain ⟨hm, hp⟩ := List.mem_filter.1 hx
      obtain ⟨e, he, rfl⟩ := Y29 ((Y1j ltG _).mem_iff.1 hm)
      exact Or.inr ⟨e, he, by simpa using hp, rfl⟩
    · rintro (h | ⟨e, he, hp, rfl⟩)
      · simp at h
      · obtain ⟨i, hi, rfl⟩ := List.getElem_of_mem he
        obtain ⟨y, hy⟩ := Y1Y (l := l) (p := l[i].f1) (c := l[i].f2.f0) (d := l[i].f2.f1) (j := l.length) i hi hi ⟨rfl, rfl, rfl⟩
        refine ⟨⟨l[i].f1, l[i].f2.f0, l[i].f2.f1⟩, List.mem_filter.2 ⟨(Y1j ltG _).mem_iff.2 (Y3F.2 (by rw [hy]; rfl)), by simpa using hp⟩, rfl⟩
theorem Y4v (l : List S30) (a2 a3 : Int) (s : List SG) : ∀ j, j ≤ s.length → stS l a2 a3 s j = (s.take j).foldl (fun q x => stO l a2 a3 x q) ([], [])
  | 0, _ => by simp [stS]
  | j + 1, h => by
    have hj : j < s.length := by omega
    rw [stS, dif_pos hj, Y4v l a2 a3 s j (by omega), ← List.take_append_getElem hj, List.foldl_append]
    rfl
def stT (l : List S30) (a2 a3 : Int) (q : List S28 × List S26) (t : S26) : List S28 × List S26 := stO l a2 a3 ⟨a2, t.f0, t.f1⟩ q
theorem Y5U (l : List S30) (a2 a3 : Int) : ∀ (G : List SG) (q : List S28 × List S26), G.foldl (fun q x => stO l a2 a3 x q) q = ((G.filter (fun x => x.p == a2)).map toT).foldl (stT l a2 a3) q
  | [], q => rfl
  | x :: G, q => by
    rw [List.foldl_cons, Y5U l a2 a3 G]
    by_cases h : x.p = a2
    · rw [List.filter_cons_of_pos (by simpa using h), List.map_cons, List.foldl_cons]
      congr 1
      unfold stT toT
      rw [← h]
    · rw [List.filter_cons_of_neg (by simpa using h)]
      congr 1
      unfold stO
      rw [if_pos (Or.inl (by simpa using h))]
theorem Y6O {d : Int} {l : List S30} (h : rchkP d l = 0) (a2 a3 : Int) : stfP l a2 a3 = (sgT a2 [] l).foldl (stT l a2 a3) ([], []) := by
  unfold stfP
  rw [Y4v l a2 a3 _ _ (Nat.le_refl _), List.take_length, Y5U, Y4J h]
theorem Y3U (l : List S28) (hl : l.length ≤ 1000000) : ∀ (m i k : Nat), l.length - i = m → i ≤ l.length → m + 1 ≤ k → Yl.l0 k l l (i : Int) = some true
  | 0, i, k, hm, hi, hk => by
    obtain ⟨k, rfl⟩ : ∃ j, k = j + 1 := ⟨k - 1, by omega⟩
    unfold Yl.l0
    rw [if_neg (by omega)]
  | m + 1, i, k, hm, hi, hk => by
    obtain ⟨k, rfl⟩ : ∃ j, k = j + 1 := ⟨k - 1, by omega⟩
    unfold Yl.l0
    rw [if_pos (by omega), if_pos (by omega), if_pos (by omega), if_neg (by simp), show wrap64 ((i : Int) + 1) = ((i + 1 : Nat) : Int) by unfold wrap64; omega]
    exact Y3U l hl m (i + 1) k (by omega) (by omega) (by omega)
theorem Y49 (k : Nat) (l : List S28) (hl : l.length ≤ 1000000) (hk : l.length + 1 ≤ k) : Yl.f k l l = some true := by
  unfold Yl.f
  rw [if_pos rfl]
  exact Y3U l hl l.length 0 k (by omega) (by omega) hk
theorem Y3X (l : List S26) (hl : l.length ≤ 1000000) : ∀ (m i k : Nat), l.length - i = m → i ≤ l.length → m + 1 ≤ k → Yj.l0 k l l (i : Int) = some true
  | 0, i, k, hm, hi, hk => by
    obtain ⟨k, rfl⟩ : ∃ j, k = j + 1 := ⟨k - 1, by omega⟩
    unfold Yj.l0
    rw [if_neg (by omega)]
  | m + 1, i, k, hm, hi, hk => by
    obtain ⟨k, rfl⟩ : ∃ j, k = j + 1 := ⟨k - 1, by omega⟩
    unfold Yj.l0
    rw [if_pos (by omega), if_pos (by omega), if_pos (by omega), if_neg (by simp), show wrap64 ((i : Int) + 1) = ((i + 1 : Nat) : Int) by unfold wrap64; omega]
    exact Y3X l hl m (i + 1) k (by omega) (by omega) (by omega)
theorem Y4d (k : Nat) (l : List S26) (hl : l.length ≤ 1000000) (hk : l.length + 1 ≤ k) : Yj.f k l l = some true := by
  unfold Yj.f
  rw [if_pos rfl]
  exact Y3X l hl l.length 0 k (by omega) (by omega) hk
theorem Y5t (l : List S30) (a2 a3 : Int) : (isrt ltY (stfP l a2 a3).1).length ≤ l.length ∧ (stfP l a2 a3).2.length ≤ l.length := by
  have h1 := Y33 l a2 a3 (isrt ltG (sgF l l.length)) (isrt ltG (sgF l l.length)).length
  have h2 := (Y1j ltG (sgF l l.length)).length_eq
  have h3 := Y2w l l.length
  rw [(Y1j ltY _).length_eq]
  unfold stfP
  exact ⟨by omega, by omega⟩
def zN (n : Int) : Prop := -9223372036854775808 ≤ n ∧ n ≤ 9223372036854775807
def zT26 (x : S26) : Prop := zN x.f0 ∧ zN x.f1
def zT28 (x : S28) : Prop := zN x.f0 ∧ zN x.f1 ∧ zN x.f2 ∧ zN x.f3 ∧ zN x.f4 ∧ zN x.f5 ∧ zN x.f6
def zT30 (x : S30) : Prop := zT26 x.f0 ∧ zN x.f1 ∧ zT26 x.f2 ∧ True ∧ zT28 x.f4
theorem zN_ok {n : Int} (h : zN n) : okN n := by
  have e1 : IntKind.i64.min = -9223372036854775808 := rfl
  have e2 : IntKind.i64.max = 9223372036854775807 := rfl
  unfold okN
  simp only [Lit.wf, e1, e2, Bool.and_eq_true, decide_eq_true_eq]
  exact h
theorem zT_ok {x : S30} (h : zT30 x) : okE30 x := by
  obtain ⟨_, c, ⟨d, e⟩, _⟩ := h
  exact ⟨zN_ok c, zN_ok d, zN_ok e⟩
theorem Y2E (l : List S30) (hl : l.length ≤ 1000000) : ∀ (m i k : Nat), l.length - i = m → i ≤ l.length → m + 1 ≤ k → Yi.l0 k l l (i : Int) = some true
  | 0, i, k, hm, hi, hk => by
    obtain ⟨k, rfl⟩ : ∃ j, k = j + 1 := ⟨k - 1, by omega⟩
    unfold Yi.l0
    rw [if_neg (by omega)]
  | m + 1, i, k, hm, hi, hk => by
    obtain ⟨k, rfl⟩ : ∃ j, k = j + 1 := ⟨k - 1, by omega⟩
    unfold Yi.l0
    rw [if_pos (by omega), if_pos (by omega), if_pos (by omega), if_neg (by simp), show wrap64 ((i : Int) + 1) = ((i + 1 : Nat) : Int) by unfold wrap64; omega]
    exact Y2E l hl m (i + 1) k (by omega) (by omega) (by omega)
theorem Y2i (k : Nat) (l : List S30) (hl : l.length ≤ 1000000) (hk : l.length + 1 ≤ k) : Yi.f k l l = some true := by
  unfold Yi.f
  rw [if_pos rfl]
  exact Y2E l hl l.length 0 k (by omega) (by omega) hk
theorem Y4F (k : Nat) (d : Int) (l : List S30) (hl : l.length ≤ 1000000) (hk : l.length + 1 ≤ k) : YE.f k d l d l = some true := by
  unfold YE.f
  rw [if_pos rfl, Y2i k l hl hk]
  rfl
end Go.Proofs.Yteopkkoblbmggaa.P
end

/- Texts of this claim in one: VP34, VP35, VOpen, VAwakeR, VRSymP, VRPutP; no condition. -/
import Derived.Test.YteopkkoblbmggaaAAC
import Derived.Test.YteopkkoblbmggaaAAE
import Derived.Test.YteopkkoblbmggaaAAI
import Derived.Test.YteopkkoblbmggaaAAO
import Derived.Test.YteopkkoblbmggaaAAU
import Derived.Test.YteopkkoblbmggaaAAJ
import Derived.Test.YteopkkoblbmggaaAAB
import Derived.OpenShut
import Derived.SizedLaws
import Derived.ChangeArms
import Derived.Test.YteopkkoblbmggaaAAP
import Derived.Test.YteopkkoblbmggaaAAH
import Derived.Test.YteopkkoblbmggaaAAQ
import Derived.Test.YteopkkoblbmggaaAAG
section
namespace Go.Proofs.Yteopkkoblbmggaa.P
open Go.RowKit Go.Proofs.YteopkkoblbmggaaW.PrintWords Go.Proofs.YteopkkoblbmggaaW.PrintLast Go.Proofs.YteopkkoblbmggaaW.PrintMore
attribute [local go_sem] YW YY Y14 Y15 YN YO YX YZ
set_option linter.unusedVariables false
set_option linter.unusedSimpArgs false
attribute [local go_sem high] eqA30
def Ym.l0 : Nat → List (S30) → List (S30) → Int → Option (Bool)
 | 0, _, _, _ => none
 | k + 1, x0, x1, x5 => if x5 < (x0.length : Int) then (if 0 ≤ x5 then (if x5 < (x1.length : Int) then (if ((!(((Y5 x0 x5).f0.f0) == ((Y5 x1 x5).f0.f0)) || (!(((Y5 x0 x5).f0.f1) == ((Y5 x1 x5).f0.f1)))) || (!(((Y5 x0 x5).f1) == ((Y5 x1 x5).f1)) || ((!(((Y5 x0 x5).f2.f0) == ((Y5 x1 x5).f2.f0)) || (!(((Y5 x0 x5).f2.f1) == ((Y5 x1 x5).f2.f1)))) || (!(((Y5 x0 x5).f3) == ((Y5 x1 x5).f3)) || ((!(((Y5 x0 x5).f4.f0) == ((Y5 x1 x5).f4.f0)) || (!(((Y5 x0 x5).f4.f1) == ((Y5 x1 x5).f4.f1)) || (!(((Y5 x0 x5).f4.f2) == ((Y5 x1 x5).f4.f2)) || (!(((Y5 x0 x5).f4.f3) == ((Y5 x1 x5).f4.f3)) || (!(((Y5 x0 x5).f4.f4) == ((Y5 x1 x5).f4.f4)) || (!(((Y5 x0 x5).f4.f5) == ((Y5 x1 x5).f4.f5)) || (!(((Y5 x0 x5).f4.f6) == ((Y5 x1 x5).f4.f6)))))))))))))) = true then (some false) else (Ym.l0 k x0 x1 (wrap64 (x5 + 1)))) else (none)) else (none)) else (some true)
def Ym.f (k : Nat) (l0 : List (S30)) (l1 : List (S30)) : Option (Bool) := if (l0.length : Int) = (l1.length : Int) then (Ym.l0 k l0 l1 0) else (some false)
theorem Ym.mono_l : ∀ k, (∀ y0 y1 y2, LeO (Ym.l0 k y0 y1 y2) (Ym.l0 (k + 1) y0 y1 y2))
 | 0 => fun _ _ _ r h => by simp [Ym.l0] at h
 | k + 1 => by
  have ih0 := Ym.mono_l k
  ·intro y0 y1 y2
   unfold Ym.l0
   repeat' first
   | (with_reducible exact ih0 _ _ _)
   | (with_reducible exact LeO.refl _)
   | (with_reducible exact LeO.none _)
   | (with_reducible refine LeO.ite ?_ ?_)
   | (with_reducible refine LeO.bind ?_ (fun _ => ?_))
theorem Ym.mono : ∀ a0 a1 k, LeO (Ym.f k a0 a1) (Ym.f (k + 1) a0 a1) := by
 intro a0 a1 k
 have ih0 := Ym.mono_l k
 unfold Ym.f
 repeat' first
   | (with_reducible exact ih0 _ _ _)
   | (with_reducible exact LeO.refl _)
   | (with_reducible exact LeO.none _)
   | (with_reducible refine LeO.ite ?_ ?_)
   | (with_reducible refine LeO.bind ?_ (fun _ => ?_))
set_option maxHeartbeats 8000000 in
set_option maxRecDepth 100000 in
theorem Ym.calls (k : Nat) (A0 : Option Addr) (c0 : Nat) (l0 : List (S30)) (A1 : Option Addr) (c1 : Nat) (l1 : List (S30)) (r : Bool) (w : World) (hr0 : Kd.C k30 w A0 l0.length l0) (hc0 : l0.length ≤ c0) (hr1 : Kd.C k30 w A1 l1.length l1) (hc1 : l1.length ≤ c1) (h : Ym.f k l0 l1 = some r) :
  Calls Try.prog 30 #[.slice A0 l0.length c0, .slice A1 l1.length c1] w fun e w' => e = .returned (.bool r) ∧ Drawn0 w w' := by
 have hu30 := Try.underlying30
 have HR0 := Y0.mk hr0
 have HC0 := Y0.mk hc0
 clear hr0 hc0
 have HR1 := Y0.mk hr1
 have HC1 := Y0.mk hc1
 clear hr1 hc1
 have H : (if (l0.length : Int) = (l1.length : Int) then (Ym.l0 k l0 l1 0) else (some false)) = some r := h
 clear h
 by_cases c3 : (l0.length : Int) = (l1.length : Int)
 ·rw [if_pos c3] at H
  have c3b0 := bqT c3
  have c3b1 := bnF c3
  have c3b2 : (l0.length == l1.length) = true := by first | simpa using c3 | (simp at c3 ⊢; omega)
  clear c3
  have H' := Y0.mk H
  clear H
  go_enter Try.func30, Try.ntmps30
  go_wp2
  repeat (go_quiet (fail); try go_wp2)
  go_loopg [5] k (fun kq v5 w' => ∃ (x5_1 : Int), v5 = .int .i64 x5_1 ∧ Y0 (Ym.l0 kq l0 l1 x5_1 = some r) ∧ Y0 (kq ≤ k) ∧ Drawn0 w w')
  case atStart => exact ⟨(0), reS, H', ⟨Nat.le_refl _⟩, dS⟩
  case round =>
   clear H'
   try clear c1
   try clear p2
   try clear c3
   try clear c3b0
   try clear c3b1
   try clear c3b2
   obtain ⟨x5_1, rfl, HA, HK1, ⟨m1, rfl⟩⟩ := hrel
   cases gk with
   | zero => exact absurd HA.out (by simp [Ym.l0])
   | succ k1 =>
    have H := HA.out
    clear HA
    simp only [Ym.l0] at H
    by_cases c4 : x5_1 < (l0.length : Int)
    ·rw [if_pos c4] at H
     have c4b0 := decide_eq_true c4
     clear c4
     obtain ⟨c5, H⟩ := iS H
     have c5b0 := decide_eq_true c5
     clear c5
     obtain ⟨c6, H⟩ := iS H
     have c6b0 := decide_eq_true c6
     clear c6
     by_cases c7 : ((!(((Y5 l0 x5_1).f0.f0) == ((Y5 l1 x5_1).f0.f0)) || (!(((Y5 l0 x5_1).f0.f1) == ((Y5 l1 x5_1).f0.f1)))) || (!(((Y5 l0 x5_1).f1) == ((Y5 l1 x5_1).f1)) || ((!(((Y5 l0 x5_1).f2.f0) == ((Y5 l1 x5_1).f2.f0)) || (!(((Y5 l0 x5_1).f2.f1) == ((Y5 l1 x5_1).f2.f1)))) || (!(((Y5 l0 x5_1).f3) == ((Y5 l1 x5_1).f3)) || ((!(((Y5 l0 x5_1).f4.f0) == ((Y5 l1 x5_1).f4.f0)) || (!(((Y5 l0 x5_1).f4.f1) == ((Y5 l1 x5_1).f4.f1)) || (!(((Y5 l0 x5_1).f4.f2) == ((Y5 l1 x5_1).f4.f2)) || (!(((Y5 l0 x5_1).f4.f3) == ((Y5 l1 x5_1).f4.f3)) || (!(((Y5 l0 x5_1).f4.f4) == ((Y5 l1 x5_1).f4.f4)) || (!(((Y5 l0 x5_1).f4.f5) == ((Y5 l1 x5_1).f4.f5)) || (!(((Y5 l0 x5_1).f4.f6) == ((Y5 l1 x5_1).f4.f6)))))))))))))) = true
     ·rw [if_pos c7] at H
      have c7b0 : ((!(((Y5 l0 x5_1).f0.f0) == ((Y5 l1 x5_1).f0.f0)) || (!(((Y5 l0 x5_1).f0.f1) == ((Y5 l1 x5_1).f0.f1)))) || (!(((Y5 l0 x5_1).f1) == ((Y5 l1 x5_1).f1)) || ((!(((Y5 l0 x5_1).f2.f0) == ((Y5 l1 x5_1).f2.f0)) || (!(((Y5 l0 x5_1).f2.f1) == ((Y5 l1 x5_1).f2.f1)))) || (!(((Y5 l0 x5_1).f3) == ((Y5 l1 x5_1).f3)) || ((!(((Y5 l0 x5_1).f4.f0) == ((Y5 l1 x5_1).f4.f0)) || (!(((Y5 l0 x5_1).f4.f1) == ((Y5 l1 x5_1).f4.f1)) || (!(((Y5 l0 x5_1).f4.f2) == ((Y5 l1 x5_1).f4.f2)) || (!(((Y5 l0 x5_1).f4.f3) == ((Y5 l1 x5_1).f4.f3)) || (!(((Y5 l0 x5_1).f4.f4) == ((Y5 l1 x5_1).f4.f4)) || (!(((Y5 l0 x5_1).f4.f5) == ((Y5 l1 x5_1).f4.f5)) || (!(((Y5 l0 x5_1).f4.f6) == ((Y5 l1 x5_1).f4.f6)))))))))))))) = true := c7
      clear c7
      obtain rfl := Option.some.inj H
      have p543 : 0 ≤ (x5_1 : Int) := of_decide_eq_true (by first | (with_reducible assumption) | assumption)
      have q543 : x5_1 < (l0.length : Int) := of_decide_eq_true (by first | (with_reducible assumption) | assumption)
      obtain ⟨d_1, e543, m_d, m_k, m_e, m_h, m_0, m_1, m_f, m_9, m_3, m_p, m_a, m_o, m_6⟩ := Y1l HR0.out x5_1 p543 q543
      cases e543
      replace p543 := eq_true p543
      replace q543 := eq_true q543
      have p544 : 0 ≤ (x5_1 : Int) := of_decide_eq_true (by first | (with_reducible assumption) | assumption)
      have q544 : x5_1 < (l1.length : Int) := of_decide_eq_true (by first | (with_reducible assumption) | assumption)
      obtain ⟨d_0, e544, m_2, m_4, m_c, m_5, m_7, m_i, m_l, m_g, m_8, m_b, m_n, m_j, m_m⟩ := Y1l HR1.out x5_1 p544 q544
      cases e544
      replace p544 := eq_true p544
      replace q544 := eq_true q544
      go_wp2
      repeat (go_quiet (fail); try go_wp2)
      go_ret
      exact ⟨reS, dS⟩
     ·rw [if_neg c7] at H
      have c7b0 : ((!(((Y5 l0 x5_1).f0.f0) == ((Y5 l1 x5_1).f0.f0)) || (!(((Y5 l0 x5_1).f0.f1) == ((Y5 l1 x5_1).f0.f1)))) || (!(((Y5 l0 x5_1).f1) == ((Y5 l1 x5_1).f1)) || ((!(((Y5 l0 x5_1).f2.f0) == ((Y5 l1 x5_1).f2.f0)) || (!(((Y5 l0 x5_1).f2.f1) == ((Y5 l1 x5_1).f2.f1)))) || (!(((Y5 l0 x5_1).f3) == ((Y5 l1 x5_1).f3)) || ((!(((Y5 l0 x5_1).f4.f0) == ((Y5 l1 x5_1).f4.f0)) || (!(((Y5 l0 x5_1).f4.f1) == ((Y5 l1 x5_1).f4.f1)) || (!(((Y5 l0 x5_1).f4.f2) == ((Y5 l1 x5_1).f4.f2)) || (!(((Y5 l0 x5_1).f4.f3) == ((Y5 l1 x5_1).f4.f3)) || (!(((Y5 l0 x5_1).f4.f4) == ((Y5 l1 x5_1).f4.f4)) || (!(((Y5 l0 x5_1).f4.f5) == ((Y5 l1 x5_1).f4.f5)) || (!(((Y5 l0 x5_1).f4.f6) == ((Y5 l1 x5_1).f4.f6)))))))))))))) = false := by simpa using c7
      clear c7
      have H' := Y0.mk H
      clear H
      have p543 : 0 ≤ (x5_1 : Int) := of_decide_eq_true (by first | (with_reducible assumption) | assumption)
      have q543 : x5_1 < (l0.length : Int) := of_decide_eq_true (by first | (with_reducible assumption) | assumption)
      obtain ⟨d_1, e543, m_d, m_k, m_e, m_h, m_0, m_1, m_f, m_9, m_3, m_p, m_a, m_o, m_6⟩ := Y1l HR0.out x5_1 p543 q543
      cases e543
      replace p543 := eq_true p543
      replace q543 := eq_true q543
      have p544 : 0 ≤ (x5_1 : Int) := of_decide_eq_true (by first | (with_reducible assumption) | assumption)
      have q544 : x5_1 < (l1.length : Int) := of_decide_eq_true (by first | (with_reducible assumption) | assumption)
      obtain ⟨d_0, e544, m_2, m_4, m_c, m_5, m_7, m_i, m_l, m_g, m_8, m_b, m_n, m_j, m_m⟩ := Y1l HR1.out x5_1 p544 q544
      cases e544
      replace p544 := eq_true p544
      replace q544 := eq_true q544
      go_wp2
      repeat (go_quiet (fail); try go_wp2)
      go_roundg k1
      case measure => have := HK1.out; omega
      case rel => exact ⟨(wrap64 (x5_1 + 1)), reS, H', ⟨by have := HK1.out; omega⟩, dS⟩
    ·rw [if_neg c4] at H
     have c4b0 := decide_eq_false c4
     clear c4
     obtain rfl := Option.some.inj H
     go_wp2
     repeat (go_quiet (fail); try go_wp2)
     go_ret
     exact ⟨reS, dS⟩
 ·rw [if_neg c3] at H
  have c3b0 := bqF c3
  have c3b1 := bnT c3
  have c3b2 : (l0.length == l1.length) = false := by first | simpa using c3 | (simp at c3 ⊢; omega)
  obtain rfl := Option.some.inj H
  go_enter Try.func30, Try.ntmps30
  go_wp2
  repeat (go_quiet (fail); try go_wp2)
  go_ret
  exact ⟨reS, dS⟩
def YK.f (k : Nat) (a0_0 : Int) (l0_1 : List (S30)) (a1_0 : Int) (l1_1 : List (S30)) : Option (Bool) := if a0_0 = a1_0 then ((Ym.f k l0_1 l1_1).bind fun t_0 => (some t_0)) else (some false)
theorem YK.mono : ∀ a0 a1 a2 a3 k, LeO (YK.f k a0 a1 a2 a3) (YK.f (k + 1) a0 a1 a2 a3) := by
 intro a0 a1 a2 a3 k
 unfold YK.f
 repeat' first
   | (with_reducible exact Ym.mono _ _ _)
   | (with_reducible exact LeO.refl _)
   | (with_reducible exact LeO.none _)
   | (with_reducible refine LeO.ite ?_ ?_)
   | (with_reducible refine LeO.bind ?_ (fun _ => ?_))
set_option maxHeartbeats 8000000 in
set_option maxRecDepth 100000 in
theorem YK.calls (k : Nat) (a0_0 : Int) (A0_1 : Option Addr) (c0_1 : Nat) (l0_1 : List (S30)) (a1_0 : Int) (A1_1 : Option Addr) (c1_1 : Nat) (l1_1 : List (S30)) (r : Bool) (w : World) (hr0_1 : Kd.C k30 w A0_1 l0_1.length l0_1) (hc0_1 : l0_1.length ≤ c0_1) (hr1_1 : Kd.C k30 w A1_1 l1_1.length l1_1) (hc1_1 : l1_1.length ≤ c1_1) (h : YK.f k a0_0 l0_1 a1_0 l1_1 = some r) :
  Calls Try.prog 21 #[.agg #[.int .i64 a0_0, .slice A0_1 l0_1.length c0_1], .agg #[.int .i64 a1_0, .slice A1_1 l1_1.length c1_1]] w fun e w' => e = .returned (.bool r) ∧ Below w.heap.size w w' := by
 have hu24 := Try.underlying24
 have HR0_1 := Y0.mk hr0_1
 have HC0_1 := Y0.mk hc0_1
 clear hr0_1 hc0_1
 have HR1_1 := Y0.mk hr1_1
 have HC1_1 := Y0.mk hc1_1
 clear hr1_1 hc1_1
 have HB := Y0.mk (Below.refl w.heap.size w)
 have H : (if a0_0 = a1_0 then ((Ym.f k l0_1 l1_1).bind fun t_0 => (some t_0)) else (some false)) = some r := h
 clear h
 by_cases c3 : a0_0 = a1_0
 ·rw [if_pos c3] at H
  have c3b0 := bqT c3
  have c3b1 := bnF c3
  clear c3
  obtain ⟨t_0, A40, H⟩ := bS H
  replace H : (some t_0) = some r := H
  have A4 := Y0.mk A40
  clear A40
  obtain rfl := Option.some.inj H
  go_enter Try.func21, Try.ntmps21
  go_wp2_with (first | ((with_reducible refine Yf (N := 2) rfl ?_); refine Yi ?hg (N := 2) ?hd (cs := #[.int .i64 a0_0, .slice A0_1 l0_1.length c0_1]) (t := 24) ?hr ?_; (case hd => rfl); (case hg => rfl); (case hr => first | (go_simp; done) | (go_simp; rfl)); intro g_1 hg w5 hbox hb; have n0_ := Y0.mk (Y6 (hU HB.out) hb); have n1_ := Y0.mk (hbox); have n2_ := gE hg HB; have n3_ := gE hg HB; clear HB; have HB := n0_; have B_0 := n1_; have W_0 := n2_; have G_0 := n3_; clear n0_ n1_ n2_ n3_; clear hb hbox hg) | ((with_reducible refine Yf (N := 3) rfl ?_); refine Yi ?hg (N := 3) ?hd (cs := #[.int .i64 a1_0, .slice A1_1 l1_1.length c1_1]) (t := 24) ?hr ?_; (case hd => rfl); (case hg => rfl); (case hr => first | (go_simp; done) | (go_simp; rfl)); intro g_0 hg w6 hbox hb; have n0_ := Y0.mk (Y2 (bU B_0.out) hb); have n1_ := Y0.mk (Y6 (hU HB.out) hb); have n2_ := Y0.mk (hbox); have n3_ := gE hg HB; have n4_ := gE hg HB; have n5_ := gL hg B_0; have n6_ := gG hg B_0; clear B_0; clear HB; have B_0 := n0_; have HB := n1_; have B_1 := n2_; have W_1 := n3_; have G_1 := n4_; have N_1 := n5_; have N_0 := n6_; clear n0_ n1_ n2_ n3_ n4_ n5_ n6_; clear hb hbox hg; have hnb7 := N_1.out; have hnc7 := N_0.out; have z_2 := Y1 B_0.out; have f_0 := Y4 B_0.out; have z_1 := Y1 B_1.out; have f_1 := Y4 B_1.out) | (go_at_call 30; (with_reducible refine (Ym.calls k _ _ l0_1 _ _ l1_1 t_0 _ ?side1 ?side2 ?side3 ?side4 A4.out).mono ?_); (case side1 => repeat (first | exact (Kd.C_below HR0_1.out HB.out) | (with_reducible refine Kd.C_alloc ?_ _) | (with_reducible refine Kd.C_drewN ?_ _) | (with_reducible refine Kd.C_drew ?_))); (case side2 => exact HC0_1.out); (case side3 => repeat (first | exact (Kd.C_below HR1_1.out HB.out) | (with_reducible refine Kd.C_alloc ?_ _) | (with_reducible refine Kd.C_drewN ?_ _) | (with_reducible refine Kd.C_drew ?_))); (case side4 => exact HC1_1.out); rintro e w' ⟨rfl, ⟨nd, rfl⟩⟩))
  go_ret
  exact ⟨reT, hU HB.out⟩
 ·rw [if_neg c3] at H
  have c3b0 := bqF c3
  have c3b1 := bnT c3
  obtain rfl := Option.some.inj H
  go_enter Try.func21, Try.ntmps21
  go_wp2_with (first | ((with_reducible refine Yf (N := 2) rfl ?_); refine Yi ?hg (N := 2) ?hd (cs := #[.int .i64 a0_0, .slice A0_1 l0_1.length c0_1]) (t := 24) ?hr ?_; (case hd => rfl); (case hg => rfl); (case hr => first | (go_simp; done) | (go_simp; rfl)); intro g_1 hg w10 hbox hb; have n0_ := Y0.mk (Y6 (hU HB.out) hb); have n1_ := Y0.mk (hbox); have n2_ := gE hg HB; have n3_ := gE hg HB; clear HB; have HB := n0_; have B_0 := n1_; have W_0 := n2_; have G_0 := n3_; clear n0_ n1_ n2_ n3_; clear hb hbox hg) | ((with_reducible refine Yf (N := 3) rfl ?_); refine Yi ?hg (N := 3) ?hd (cs := #[.int .i64 a1_0, .slice A1_1 l1_1.length c1_1]) (t := 24) ?hr ?_; (case hd => rfl); (case hg => rfl); (case hr => first | (go_simp; done) | (go_simp; rfl)); intro g_0 hg w11 hbox hb; have n0_ := Y0.mk (Y2 (bU B_0.out) hb); have n1_ := Y0.mk (Y6 (hU HB.out) hb); have n2_ := Y0.mk (hbox); have n3_ := gE hg HB; have n4_ := gE hg HB; have n5_ := gL hg B_0; have n6_ := gG hg B_0; clear B_0; clear HB; have B_0 := n0_; have HB := n1_; have B_1 := n2_; have W_1 := n3_; have G_1 := n4_; have N_1 := n5_; have N_0 := n6_; clear n0_ n1_ n2_ n3_ n4_ n5_ n6_; clear hb hbox hg; have hnb12 := N_1.out; have hnc12 := N_0.out; have z_0 := Y1 B_0.out; have f_3 := Y4 B_0.out; have z_3 := Y1 B_1.out; have f_2 := Y4 B_1.out))
  go_ret
  exact ⟨reT, hU HB.out⟩
end Go.Proofs.Yteopkkoblbmggaa.P
end
section
namespace Go.Proofs.Yteopkkoblbmggaa.P
open Go.RowKit Go.Proofs.YteopkkoblbmggaaW.PrintWords Go.Proofs.YteopkkoblbmggaaW.PrintLast Go.Proofs.YteopkkoblbmggaaW.PrintMore
attribute [local go_sem] YW YY Y14 Y15 YN YO YX YZ
set_option linter.unusedVariables false
set_option linter.unusedSimpArgs false
def YI.f (k : Nat) (a0_0 : Int) (l0_1 : List (S30)) (a1_0 : Int) (a1_1 : Int) (a1_2 : Int) (a1_3 : Int) (a1_4 : Int) (a1_5 : Bool) (a1_6 : Int) (a1_7 : Int) (a1_8 : Int) (a1_9 : Int) (a1_10 : Int) (a1_11 : Int) (a1_12 : Int) : Option (Bool) := (Y12.f a0_0 l0_1).bind fun t_7 => (if t_7 = true then ((Y8.f k).bind fun t_5 => (some t_5)) else ((YC.f a0_0 l0_1 a1_0 a1_1 a1_2 a1_3 a1_4 a1_5 a1_6 a1_7 a1_8 a1_9 a1_10 a1_11 a1_12).bind fun b_0 => ((Yk.f k a0_0 l0_1 a1_0 a1_1 a1_2 a1_3 a1_4 a1_5 a1_6 a1_7 a1_8 a1_9 a1_10 a1_11 a1_12).bind fun b_1 => ((YK.f k b_0.1 b_0.2.1 b_1.1 b_1.2.1).bind fun t_6 => (if t_6 = true then (if b_0.2.2 = b_1.2.2 then ((Y8.f k).bind fun t_1 => (some t_1)) else (none)) else (none))))))
theorem YI.mono : ∀ a0 a1 a2 a3 a4 a5 a6 a7 a8 a9 a10 a11 a12 a13 a14 k, LeO (YI.f k a0 a1 a2 a3 a4 a5 a6 a7 a8 a9 a10 a11 a12 a13 a14) (YI.f (k + 1) a0 a1 a2 a3 a4 a5 a6 a7 a8 a9 a10 a11 a12 a13 a14) := by
 intro a0 a1 a2 a3 a4 a5 a6 a7 a8 a9 a10 a11 a12 a13 a14 k
 unfold YI.f
 repeat' first
   | (with_reducible exact Y8.mono _)
   | (with_reducible exact Yk.mono _ _ _ _ _ _ _ _ _ _ _ _ _ _ _ _)
   | (with_reducible exact YK.mono _ _ _ _ _)
   | (with_reducible exact LeO.refl _)
   | (with_reducible exact LeO.none _)
   | (with_reducible refine LeO.ite ?_ ?_)
   | (with_reducible refine LeO.bind ?_ (fun _ => ?_))
set_option maxHeartbeats 8000000 in
set_option maxRecDepth 100000 in
theorem YI.calls (k : Nat) (a0_0 : Int) (A0_1 : Option Addr) (c0_1 : Nat) (l0_1 : List (S30)) (a1_0 : Int) (a1_1 : Int) (a1_2 : Int) (a1_3 : Int) (a1_4 : Int) (a1_5 : Bool) (a1_6 : Int) (a1_7 : Int) (a1_8 : Int) (a1_9 : Int) (a1_10 : Int) (a1_11 : Int) (a1_12 : Int) (r : Bool) (w : World) (hr0_1 : Kd.C k30 w A0_1 l0_1.length l0_1) (hc0_1 : l0_1.length ≤ c0_1) (h : YI.f k a0_0 l0_1 a1_0 a1_1 a1_2 a1_3 a1_4 a1_5 a1_6 a1_7 a1_8 a1_9 a1_10 a1_11 a1_12 = some r) :
  Calls Try.prog 3 #[.agg #[.int .i64 a0_0, .slice A0_1 l0_1.length c0_1], .agg #[.int .i64 a1_0, .int .i64 a1_1, .int .i64 a1_2, .int .i64 a1_3, .int .i64 a1_4, .bool a1_5, .int .i64 a1_6, .int .i64 a1_7, .int .i64 a1_8, .int .i64 a1_9, .int .i64 a1_10, .int .i64 a1_11, .int .i64 a1_12]] w fun e w' => e = .returned (.bool r) ∧ Below w.heap.size w w' := by
 have hu24 := Try.underlying24
 have hu30 := Try.underlying30
 have HR0_1 := Y0.mk hr0_1
 have HC0_1 := Y0.mk hc0_1
 clear hr0_1 hc0_1
 have HB := Y0.mk (Below.refl w.heap.size w)
 have H : ((Y12.f a0_0 l0_1).bind fun t_7 => (if t_7 = true then ((Y8.f k).bind fun t_5 => (some t_5)) else ((YC.f a0_0 l0_1 a1_0 a1_1 a1_2 a1_3 a1_4 a1_5 a1_6 a1_7 a1_8 a1_9 a1_10 a1_11 a1_12).bind fun b_0 => ((Yk.f k a0_0 l0_1 a1_0 a1_1 a1_2 a1_3 a1_4 a1_5 a1_6 a1_7 a1_8 a1_9 a1_10 a1_11 a1_12).bind fun b_1 => ((YK.f k b_0.1 b_0.2.1 b_1.1 b_1.2.1).bind fun t_6 => (if t_6 = true then (if b_0.2.2 = b_1.2.2 then ((Y8.f k).bind fun t_1 => (some t_1)) else (none)) else (none))))))) = some r := h
 clear h
 obtain ⟨t_7, A30, H⟩ := bS H
 try dsimp only at H
 have A3 := Y0.mk A30
 clear A30
 by_cases c4 : t_7 = true
 ·subst c4
  have H1 : ((Y8.f k).bind fun t_5 => (some t_5)) = some r := by rw [if_pos rfl] at H; exact H
  clear H
  have H := H1
  clear H1
  obtain ⟨t_5, A50, H⟩ := bS H
  replace H : (some t_5) = some r := H
  have A5 := Y0.mk A50
  clear A50
  obtain rfl := Option.some.inj H
  go_enter Try.func3, Try.ntmps3
  go_wp2_with (first | ((with_reducible refine Yf (N := 2) rfl ?_); refine Yi ?hg (N := 2) ?hd (cs := #[.int .i64 a0_0, .slice A0_1 l0_1.length c0_1]) (t := 24) ?hr ?_; (case hd => rfl); (case hg => rfl); (case hr => first | (go_simp; done) | (go_simp; rfl)); intro g_3 hg w6 hbox hb; have n0_ := Y0.mk (Y6 (hU HB.out) hb); have n1_ := Y0.mk (hbox); have n2_ := gE hg HB; have n3_ := gE hg HB; clear HB; have HB := n0_; have B_0 := n1_; have W_0 := n2_; have G_1 := n3_; clear n0_ n1_ n2_ n3_; clear hb hbox hg) | ((with_reducible refine Yf (N := 3) rfl ?_); refine Yi ?hg (N := 3) ?hd (cs := #[.int .i64 a1_0, .int .i64 a1_1, .int .i64 a1_2, .int .i64 a1_3, .int .i64 a1_4, .bool a1_5, .int .i64 a1_6, .int .i64 a1_7, .int .i64 a1_8, .int .i64 a1_9, .int .i64 a1_10, .int .i64 a1_11, .int .i64 a1_12]) (t := 30) ?hr ?_; (case hd => rfl); (case hg => rfl); (case hr => first | (go_simp; done) | (go_simp; rfl)); intro g_2 hg w7 hbox hb; have n0_ := Y0.mk (Y2 (bU B_0.out) hb); have n1_ := Y0.mk (Y6 (hU HB.out) hb); have n2_ := Y0.mk (hbox); have n3_ := gE hg HB; have n4_ := gE hg HB; have n5_ := gL hg B_0; have n6_ := gG hg B_0; clear B_0; clear HB; have B_0 := n0_; have HB := n1_; have B_1 := n2_; have W_1 := n3_; have G_0 := n4_; have N_6 := n5_; have N_4 := n6_; clear n0_ n1_ n2_ n3_ n4_ n5_ n6_; clear hb hbox hg; have hnb8 := N_6.out; have hnc8 := N_4.out; have z_2 := Y1 B_0.out; have f_5 := Y4 B_0.out) | ((with_reducible refine Yb (f := 17) rfl ?_); refine goesA (some 10) Try.func17 #[.agg #[.int .i64 a0_0, .slice A0_1 l0_1.length c0_1]] ?_; (with_reducible refine (Y12.calls a0_0 _ _ l0_1 true _ ?side1 ?side2 A3.out).mono ?_); (case side1 => repeat (first | exact (Kd.C_below HR0_1.out HB.out) | (with_reducible refine Kd.C_alloc ?_ _) | (with_reducible refine Kd.C_drewN ?_ _) | (with_reducible refine Kd.C_drew ?_))); (case side2 => exact HC0_1.out); rintro e w10 ⟨rfl, hb⟩; refine ⟨_, rfl, ?_⟩; replace B_0 := Y0.mk (Y2 (bU B_0.out) hb); replace B_1 := Y0.mk (Y2 (bU B_1.out) hb); replace HB := Y0.mk (Y6 (hU HB.out) hb); (try clear hb); (try clear hb2); (try clear hk); (try clear hi)) | ((with_reducible refine Yb (f := 18) rfl ?_); refine goesA (some 11) Try.func18 #[] ?_; (with_reducible refine (Y8.calls k  t_5 _ A5.out).mono ?_); rintro e w11 ⟨rfl, hb⟩; refine ⟨_, rfl, ?_⟩; replace B_0 := Y0.mk (Y2 (bU B_0.out) hb); replace B_1 := Y0.mk (Y2 (bU B_1.out) hb); replace HB := Y0.mk (Y6 (hU HB.out) hb); (try clear hb); (try clear hb2); (try clear hk); (try clear hi)))
  go_ret
  exact ⟨reT, hU HB.out⟩
 ·replace c4 := Bool.eq_false_iff.mpr c4
  subst c4
  rw [if_neg (show ¬ (false = true) by decide)] at H
  obtain ⟨⟨t_4, t_2, t_9⟩, A120, H⟩ := bS H
  try dsimp only at H
  have A12 := Y0.mk A120
  clear A120
  obtain ⟨⟨t_3, t_0, t_8⟩, A130, H⟩ := bS H
  try dsimp only at H
  have A13 := Y0.mk A130
  clear A130
  obtain ⟨t_6, A140, H⟩ := bS H
  replace H : (if t_6 = true then (if t_9 = t_8 then ((Y8.f k).bind fun t_1 => (some t_1)) else (none)) else (none)) = some r := H
  have A14 := Y0.mk A140
  clear A140
  by_cases c15 : t_6 = true
  rotate_left
  ·replace c15 := Bool.eq_false_iff.mpr c15
   subst c15
   have H1 : (none) = some r := by rw [if_neg (show ¬ (false = true) by decide)] at H; exact H
   clear H
   have H := H1
   clear H1
   exact absurd H (by simp)
  subst c15
  have H1 : (if t_9 = t_8 then ((Y8.f k).bind fun t_1 => (some t_1)) else (none)) = some r := by rw [if_pos rfl] at H; exact H
  clear H
  have H := H1
  clear H1
  obtain ⟨c16, H⟩ := iS H
  have c16b0 := bqT c16
  have c16b1 := bnF c16
  clear c16
  obtain ⟨t_1, A170, H⟩ := bS H
  replace H : (some t_1) = some r := H
  have A17 := Y0.mk A170
  clear A170
  obtain rfl := Option.some.inj H
  go_enter Try.func3, Try.ntmps3
  go_wp2_with (first | ((with_reducible refine Yf (N := 2) rfl ?_); refine Yi ?hg (N := 2) ?hd (cs := #[.int .i64 a0_0, .slice A0_1 l0_1.length c0_1]) (t := 24) ?hr ?_; (case hd => rfl); (case hg => rfl); (case hr => first | (go_simp; done) | (go_simp; rfl)); intro g_3 hg w18 hbox hb; have n0_ := Y0.mk (Y6 (hU HB.out) hb); have n1_ := Y0.mk (hbox); have n2_ := gE hg HB; have n3_ := gE hg HB; clear HB; have HB := n0_; have B_0 := n1_; have W_0 := n2_; have G_1 := n3_; clear n0_ n1_ n2_ n3_; clear hb hbox hg) | ((with_reducible refine Yf (N := 3) rfl ?_); refine Yi ?hg (N := 3) ?hd (cs := #[.int .i64 a1_0, .int .i64 a1_1, .int .i64 a1_2, .int .i64 a1_3, .int .i64 a1_4, .bool a1_5, .int .i64 a1_6, .int .i64 a1_7, .int .i64 a1_8, .int .i64 a1_9, .int .i64 a1_10, .int .i64 a1_11, .int .i64 a1_12]) (t := 30) ?hr ?_; (case hd => rfl); (case hg => rfl); (case hr => first | (go_simp; done) | (go_simp; rfl)); intro g_2 hg w19 hbox hb; have n0_ := Y0.mk (Y2 (bU B_0.out) hb); have n1_ := Y0.mk (Y6 (hU HB.out) hb); have n2_ := Y0.mk (hbox); have n3_ := gE hg HB; have n4_ := gE hg HB; have n5_ := gL hg B_0; have n6_ := gG hg B_0; clear B_0; clear HB; have B_0 := n0_; have HB := n1_; have B_1 := n2_; have W_1 := n3_; have G_0 := n4_; have N_6 := n5_; have N_4 := n6_; clear n0_ n1_ n2_ n3_ n4_ n5_ n6_; clear hb hbox hg; have hnb20 := N_6.out; have hnc20 := N_4.out; have z_3 := Y1 B_0.out; have f_4 := Y4 B_0.out) | ((with_reducible refine Yb (f := 17) rfl ?_); refine goesA (some 10) Try.func17 #[.agg #[.int .i64 a0_0, .slice A0_1 l0_1.length c0_1]] ?_; (with_reducible refine (Y12.calls a0_0 _ _ l0_1 false _ ?side1 ?side2 A3.out).mono ?_); (case side1 => repeat (first | exact (Kd.C_below HR0_1.out HB.out) | (with_reducible refine Kd.C_alloc ?_ _) | (with_reducible refine Kd.C_drewN ?_ _) | (with_reducible refine Kd.C_drew ?_))); (case side2 => exact HC0_1.out); rintro e w22 ⟨rfl, hb⟩; refine ⟨_, rfl, ?_⟩; replace B_0 := Y0.mk (Y2 (bU B_0.out) hb); replace B_1 := Y0.mk (Y2 (bU B_1.out) hb); replace HB := Y0.mk (Y6 (hU HB.out) hb); (try clear hb); (try clear hb2); (try clear hk); (try clear hi); have z_5 := Y1 B_0.out; have f_3 := Y4 B_0.out; have z_0 := Y1 B_1.out; have f_2 := Y4 B_1.out) | ((with_reducible refine Yb (f := 19) rfl ?_); refine goesA (some 15) Try.func19 #[.agg #[.int .i64 a0_0, .slice A0_1 l0_1.length c0_1], .agg #[.int .i64 a1_0, .int .i64 a1_1, .int .i64 a1_2, .int .i64 a1_3, .int .i64 a1_4, .bool a1_5, .int .i64 a1_6, .int .i64 a1_7, .int .i64 a1_8, .int .i64 a1_9, .int .i64 a1_10, .int .i64 a1_11, .int .i64 a1_12]] ?_; (with_reducible refine (YC.calls a0_0 _ _ l0_1 a1_0 a1_1 a1_2 a1_3 a1_4 a1_5 a1_6 a1_7 a1_8 a1_9 a1_10 a1_11 a1_12 t_4 t_2 t_9 _ ?side1 ?side2 A12.out).mono ?_); (case side1 => repeat (first | exact (Kd.C_below HR0_1.out HB.out) | (with_reducible refine Kd.C_alloc ?_ _) | (with_reducible refine Kd.C_drewN ?_ _) | (with_reducible refine Kd.C_drew ?_))); (case side2 => exact HC0_1.out); rintro e w25 ⟨v_0, rfl, ho0, hb⟩; refine ⟨_, rfl, ?_⟩; replace O_0 := Y0.mk (Kd.R_lower (Kd.R_newB ho0 (bU B_1.out)) (Yp (hU HB.out))); replace B_0 := Y0.mk (Y2 (bU B_0.out) hb); replace B_1 := Y0.mk (Y2 (bU B_1.out) hb); replace HB := Y0.mk (Y6 (hU HB.out) hb); (try clear hb); (try clear hb2); (try clear hk); (try clear hi); (try clear ho0)) | ((with_reducible refine Yf (N := 5) rfl ?_); refine Yi ?hg (N := 5) ?hd (cs := #[.int .i64 0, .slice none 0 0]) (t := 24) ?hr ?_; (case hd => rfl); (case hg => rfl); (case hr => first | (go_simp; done) | (go_simp; rfl)); intro g_1 hg w26 hbox hb; have n0_ := Y0.mk (Kd.R_below (Kd.rU O_0.out) hb); have n1_ := Y0.mk (Y2 (bU B_0.out) hb); have n2_ := Y0.mk (Y2 (bU B_1.out) hb); have n3_ := Y0.mk (Y6 (hU HB.out) hb); have n4_ := Y0.mk (hbox); have n5_ := gE hg HB; have n6_ := gE hg HB; have n7_ := gL hg B_0; have n8_ := gG hg B_0; have n9_ := gL hg B_1; have n10_ := gG hg B_1; clear O_0; clear B_0; clear B_1; clear HB; have O_0 := n0_; have B_0 := n1_; have B_1 := n2_; have HB := n3_; have B_2 := n4_; have W_2 := n5_; have G_3 := n6_; have N_5 := n7_; have N_8 := n8_; have N_0 := n9_; have N_7 := n10_; clear n0_ n1_ n2_ n3_ n4_ n5_ n6_ n7_ n8_ n9_ n10_; clear hb hbox hg; have hnb27 := N_8.out; have hnc27 := N_5.out; have hnb28 := N_7.out; have hnc28 := N_0.out; have z_7 := Y1 B_2.out; have f_1 := Y4 B_2.out; obtain ⟨Ao30, co30, eo30⟩ := Kd.R_slice O_0.out; subst eo30; have z_8 := Y1 B_0.out; have f_0 := Y4 B_0.out; have z_4 := Y1 B_1.out; have f_7 := Y4 B_1.out) | ((with_reducible refine Yb (f := 20) rfl ?_); refine goesA (some 21) Try.func20 #[.agg #[.int .i64 a0_0, .slice A0_1 l0_1.length c0_1], .agg #[.int .i64 a1_0, .int .i64 a1_1, .int .i64 a1_2, .int .i64 a1_3, .int .i64 a1_4, .bool a1_5, .int .i64 a1_6, .int .i64 a1_7, .int .i64 a1_8, .int .i64 a1_9, .int .i64 a1_10, .int .i64 a1_11, .int .i64 a1_12]] ?_; (with_reducible refine (Yk.calls k a0_0 _ _ l0_1 a1_0 a1_1 a1_2 a1_3 a1_4 a1_5 a1_6 a1_7 a1_8 a1_9 a1_10 a1_11 a1_12 t_3 t_0 t_8 _ ?side1 ?side2 A13.out).mono ?_); (case side1 => exact Kd.C_below HR0_1.out (hU HB.out)); (case side2 => exact HC0_1.out); rintro e w33 ⟨v_1, rfl, ho0, hb⟩; refine ⟨_, rfl, ?_⟩; replace O_1 := Y0.mk (Kd.R_lower (Kd.R_newB (Kd.R_new' ho0 (Kd.R_lt (by (with_reducible repeat (first | apply Kd.R_alloc | apply Kd.R_drewN | apply Kd.R_drew)); exact (Kd.R_mono (Kd.R_far (p := ⟨g_1, 1, none⟩) (Kd.R_far (p := ⟨g_1, 0, none⟩) (Kd.R_types O_0.out B_2.out (by decide)) (fun _ hk => hk.2) (.int .i64 t_4)) (fun _ hk => hk.2) (.slice Ao30 t_2.length co30)) (fun _ h_ => h_.1))))) (g := g_2) (o := .cells #[.int .i64 a1_0, .int .i64 a1_1, .int .i64 a1_2, .int .i64 a1_3, .int .i64 a1_4, .bool a1_5, .int .i64 a1_6, .int .i64 a1_7, .int .i64 a1_8, .int .i64 a1_9, .int .i64 a1_10, .int .i64 a1_11, .int .i64 a1_12] 30 (0, 0)) (by (with_reducible repeat (first | refine Yd ?_ _ | refine Ya ?_ | refine Y9 ?_ _)); refine (Below.heap_setCell _ ⟨_, _, none⟩ _ _ N_0.out).trans ?_; (with_reducible repeat (first | refine Yd ?_ _ | refine Ya ?_ | refine Y9 ?_ _)); refine (Below.heap_setCell _ ⟨_, _, none⟩ _ _ N_0.out).trans ?_; (with_reducible repeat (first | refine Yd ?_ _ | refine Ya ?_ | refine Y9 ?_ _)); exact B_1.out)) (Yp (hU HB.out))); replace O_0 := Y0.mk (Kd.R_elder' (by (with_reducible repeat (first | apply Kd.R_alloc | apply Kd.R_drewN | apply Kd.R_drew)); exact (Kd.R_mono (Kd.R_far (p := ⟨g_1, 1, none⟩) (Kd.R_far (p := ⟨g_1, 0, none⟩) (Kd.R_types O_0.out B_2.out (by decide)) (fun _ hk => hk.2) (.int .i64 t_4)) (fun _ hk => hk.2) (.slice Ao30 t_2.length co30)) (fun _ h_ => h_.1))) (Kd.R_base ho0) hb); replace B_0 := Y0.mk (Y2 (g := g_3) (o := .cells #[.int .i64 a0_0, .slice A0_1 l0_1.length c0_1] 24 (0, 0)) (by (with_reducible repeat (first | refine Yd ?_ _ | refine Ya ?_ | refine Y9 ?_ _)); refine (Below.heap_setCell _ ⟨_, _, none⟩ _ _ N_5.out).trans ?_; (with_reducible repeat (first | refine Yd ?_ _ | refine Ya ?_ | refine Y9 ?_ _)); refine (Below.heap_setCell _ ⟨_, _, none⟩ _ _ N_5.out).trans ?_; (with_reducible repeat (first | refine Yd ?_ _ | refine Ya ?_ | refine Y9 ?_ _)); exact B_0.out) hb); replace B_1 := Y0.mk (Y2 (g := g_2) (o := .cells #[.int .i64 a1_0, .int .i64 a1_1, .int .i64 a1_2, .int .i64 a1_3, .int .i64 a1_4, .bool a1_5, .int .i64 a1_6, .int .i64 a1_7, .int .i64 a1_8, .int .i64 a1_9, .int .i64 a1_10, .int .i64 a1_11, .int .i64 a1_12] 30 (0, 0)) (by (with_reducible repeat (first | refine Yd ?_ _ | refine Ya ?_ | refine Y9 ?_ _)); refine (Below.heap_setCell _ ⟨_, _, none⟩ _ _ N_0.out).trans ?_; (with_reducible repeat (first | refine Yd ?_ _ | refine Ya ?_ | refine Y9 ?_ _)); refine (Below.heap_setCell _ ⟨_, _, none⟩ _ _ N_0.out).trans ?_; (with_reducible repeat (first | refine Yd ?_ _ | refine Ya ?_ | refine Y9 ?_ _)); exact B_1.out) hb); replace B_2 := Y0.mk (Y2 (g := g_1) (o := .cells #[.int .i64 t_4, .slice Ao30 t_2.length co30] 24 (0, 0)) (by (with_reducible repeat (first | refine Yd ?_ _ | refine Ya ?_ | refine Y9 ?_ _)); refine Yw (cs := #[.int .i64 t_4, .slice none 0 0]) ?_ 1 _ rfl; (with_reducible repeat (first | refine Yd ?_ _ | refine Ya ?_ | refine Y9 ?_ _)); refine Yw (cs := #[.int .i64 0, .slice none 0 0]) ?_ 0 _ rfl; (with_reducible repeat (first | refine Yd ?_ _ | refine Ya ?_ | refine Y9 ?_ _)); exact B_2.out) hb); replace HB := Y0.mk (Y6 (hU HB.out) hb); (try clear hb); (try clear hb2); (try clear hk); (try clear hi); (try clear ho0)) | ((with_reducible refine Yf (N := 7) rfl ?_); refine Yi ?hg (N := 7) ?hd (cs := #[.int .i64 0, .slice none 0 0]) (t := 24) ?hr ?_; (case hd => rfl); (case hg => rfl); (case hr => first | (go_simp; done) | (go_simp; rfl)); intro g_0 hg w34 hbox hb; have n0_ := Y0.mk (Kd.R_below (Kd.rU O_0.out) hb); have n1_ := Y0.mk (Kd.R_below (Kd.rU O_1.out) hb); have n2_ := Y0.mk (Y2 (bU B_0.out) hb); have n3_ := Y0.mk (Y2 (bU B_1.out) hb); have n4_ := Y0.mk (Y2 (bU B_2.out) hb); have n5_ := Y0.mk (Y6 (hU HB.out) hb); have n6_ := Y0.mk (hbox); have n7_ := gE hg HB; have n8_ := gE hg HB; have n9_ := gL hg B_0; have n10_ := gG hg B_0; have n11_ := gL hg B_1; have n12_ := gG hg B_1; have n13_ := gL hg B_2; have n14_ := gG hg B_2; clear O_0; clear O_1; clear B_0; clear B_1; clear B_2; clear HB; have O_0 := n0_; have O_1 := n1_; have B_0 := n2_; have B_1 := n3_; have B_2 := n4_; have HB := n5_; have B_3 := n6_; have W_3 := n7_; have G_2 := n8_; have N_2 := n9_; have N_9 := n10_; have N_3 := n11_; have N_a := n12_; have N_1 := n13_; have N_b := n14_; clear n0_ n1_ n2_ n3_ n4_ n5_ n6_ n7_ n8_ n9_ n10_ n11_ n12_ n13_ n14_; clear hb hbox hg; have hnb35 := N_9.out; have hnc35 := N_2.out; have hnb36 := N_a.out; have hnc36 := N_3.out; have hnb37 := N_b.out; have hnc37 := N_1.out; have z_1 := Y1 B_3.out; have f_8 := Y4 B_3.out; obtain ⟨Ao39, co39, eo39⟩ := Kd.R_slice O_1.out; subst eo39; have z_6 := Y1 B_2.out; have f_6 := Y4 B_2.out) | ((with_reducible refine Yb (f := 21) rfl ?_); refine goesA (some 26) Try.func21 #[.agg #[.int .i64 t_4, .slice Ao30 t_2.length co30], .agg #[.int .i64 t_3, .slice Ao39 t_0.length co39]] ?_; (with_reducible refine (YK.calls k t_4 _ _ t_2 t_3 _ _ t_0 true _ ?side1 ?side2 ?side3 ?side4 A14.out).mono ?_); (case side1 => refine (Kd.R_reads' (e := 30) (base := w.heap.size) (ok := fun k_ => ((True ∧ k_ ≠ g_2) ∧ some k_ ≠ (.slice Ao39 t_0.length co39 : Value).ownBlock)) (n := t_2.length) (c := co30) ?_).2.2; exact (by (with_reducible repeat (first | apply Kd.R_alloc | apply Kd.R_drewN | apply Kd.R_drew)); exact (Kd.R_mono (Kd.R_far (p := ⟨g_0, 1, none⟩) (Kd.R_far (p := ⟨g_0, 0, none⟩) (Kd.R_types O_0.out B_3.out (by decide)) (fun _ hk => hk.2) (.int .i64 t_3)) (fun _ hk => hk.2) (.slice Ao39 t_0.length co39)) (fun _ h_ => h_.1)))); (case side2 => exact (Kd.R_reads' O_0.out).2.1); (case side3 => refine (Kd.R_reads' (e := 30) (base := w.heap.size) (ok := fun k_ => ((True ∧ some k_ ≠ (.slice Ao30 t_2.length co30 : Value).ownBlock) ∧ k_ ≠ g_2)) (n := t_0.length) (c := co39) ?_).2.2; exact (by (with_reducible repeat (first | apply Kd.R_alloc | apply Kd.R_drewN | apply Kd.R_drew)); exact (Kd.R_mono (Kd.R_far (p := ⟨g_0, 1, none⟩) (Kd.R_far (p := ⟨g_0, 0, none⟩) (Kd.R_types O_1.out B_3.out (by decide)) (fun _ hk => hk.2) (.int .i64 t_3)) (fun _ hk => hk.2) (.slice Ao39 t_0.length co39)) (fun _ h_ => h_.1)))); (case side4 => exact (Kd.R_reads' O_1.out).2.1); rintro e w41 ⟨rfl, hb⟩; refine ⟨_, rfl, ?_⟩; replace O_0 := Y0.mk (Kd.R_below (by (with_reducible repeat (first | apply Kd.R_alloc | apply Kd.R_drewN | apply Kd.R_drew)); exact (Kd.R_mono (Kd.R_far (p := ⟨g_0, 1, none⟩) (Kd.R_far (p := ⟨g_0, 0, none⟩) (Kd.R_types O_0.out B_3.out (by decide)) (fun _ hk => hk.2) (.int .i64 t_3)) (fun _ hk => hk.2) (.slice Ao39 t_0.length co39)) (fun _ h_ => h_.1))) hb); replace O_1 := Y0.mk (Kd.R_below (by (with_reducible repeat (first | apply Kd.R_alloc | apply Kd.R_drewN | apply Kd.R_drew)); exact (Kd.R_mono (Kd.R_far (p := ⟨g_0, 1, none⟩) (Kd.R_far (p := ⟨g_0, 0, none⟩) (Kd.R_types O_1.out B_3.out (by decide)) (fun _ hk => hk.2) (.int .i64 t_3)) (fun _ hk => hk.2) (.slice Ao39 t_0.length co39)) (fun _ h_ => h_.1))) hb); replace B_0 := Y0.mk (Y2 (g := g_3) (o := .cells #[.int .i64 a0_0, .slice A0_1 l0_1.length c0_1] 24 (0, 0)) (by (with_reducible repeat (first | refine Yd ?_ _ | refine Ya ?_ | refine Y9 ?_ _)); refine (Below.heap_setCell _ ⟨_, _, none⟩ _ _ N_2.out).trans ?_; (with_reducible repeat (first | refine Yd ?_ _ | refine Ya ?_ | refine Y9 ?_ _)); refine (Below.heap_setCell _ ⟨_, _, none⟩ _ _ N_2.out).trans ?_; (with_reducible repeat (first | refine Yd ?_ _ | refine Ya ?_ | refine Y9 ?_ _)); exact B_0.out) hb); replace B_1 := Y0.mk (Y2 (g := g_2) (o := .cells #[.int .i64 a1_0, .int .i64 a1_1, .int .i64 a1_2, .int .i64 a1_3, .int .i64 a1_4, .bool a1_5, .int .i64 a1_6, .int .i64 a1_7, .int .i64 a1_8, .int .i64 a1_9, .int .i64 a1_10, .int .i64 a1_11, .int .i64 a1_12] 30 (0, 0)) (by (with_reducible repeat (first | refine Yd ?_ _ | refine Ya ?_ | refine Y9 ?_ _)); refine (Below.heap_setCell _ ⟨_, _, none⟩ _ _ N_3.out).trans ?_; (with_reducible repeat (first | refine Yd ?_ _ | refine Ya ?_ | refine Y9 ?_ _)); refine (Below.heap_setCell _ ⟨_, _, none⟩ _ _ N_3.out).trans ?_; (with_reducible repeat (first | refine Yd ?_ _ | refine Ya ?_ | refine Y9 ?_ _)); exact B_1.out) hb); replace B_2 := Y0.mk (Y2 (g := g_1) (o := .cells #[.int .i64 t_4, .slice Ao30 t_2.length co30] 24 (0, 0)) (by (with_reducible repeat (first | refine Yd ?_ _ | refine Ya ?_ | refine Y9 ?_ _)); refine (Below.heap_setCell _ ⟨_, _, none⟩ _ _ N_1.out).trans ?_; (with_reducible repeat (first | refine Yd ?_ _ | refine Ya ?_ | refine Y9 ?_ _)); refine (Below.heap_setCell _ ⟨_, _, none⟩ _ _ N_1.out).trans ?_; (with_reducible repeat (first | refine Yd ?_ _ | refine Ya ?_ | refine Y9 ?_ _)); exact B_2.out) hb); replace B_3 := Y0.mk (Y2 (g := g_0) (o := .cells #[.int .i64 t_3, .slice Ao39 t_0.length co39] 24 (0, 0)) (by (with_reducible repeat (first | refine Yd ?_ _ | refine Ya ?_ | refine Y9 ?_ _)); refine Yw (cs := #[.int .i64 t_3, .slice none 0 0]) ?_ 1 _ rfl; (with_reducible repeat (first | refine Yd ?_ _ | refine Ya ?_ | refine Y9 ?_ _)); refine Yw (cs := #[.int .i64 0, .slice none 0 0]) ?_ 0 _ rfl; (with_reducible repeat (first | refine Yd ?_ _ | refine Ya ?_ | refine Y9 ?_ _)); exact B_3.out) hb); replace HB := Y0.mk (Y6 (hU HB.out) hb); (try clear hb); (try clear hb2); (try clear hk); (try clear hi)) | (go_at_call 18; (with_reducible refine (Y8.calls k  t_1 _ A17.out).mono ?_); rintro e w42 ⟨rfl, hb⟩; replace O_0 := Y0.mk (Kd.R_below (Kd.rU O_0.out) hb); replace O_1 := Y0.mk (Kd.R_below (Kd.rU O_1.out) hb); replace B_0 := Y0.mk (Y2 (bU B_0.out) hb); replace B_1 := Y0.mk (Y2 (bU B_1.out) hb); replace B_2 := Y0.mk (Y2 (bU B_2.out) hb); replace B_3 := Y0.mk (Y2 (bU B_3.out) hb); replace HB := Y0.mk (Y6 (hU HB.out) hb); (try clear hb); (try clear hb2); (try clear hk); (try clear hi)))
  go_ret
  exact ⟨reT, hU HB.out⟩
end Go.Proofs.Yteopkkoblbmggaa.P
end
section
set_option linter.unusedVariables false
namespace Go.Proofs.Yteopkkoblbmggaa.Open
open Go.ChangeShapes Go.WideShapes Go.RowKit Go.Proofs.YteopkkoblbmggaaW.PrintWords
def Opens {α : Type} (P : Program) (t : TypeId) (d : Kd α) (ok : α → Prop) : Prop :=
  P.cellsOf t = d.sz ∧ ∀ (H : Type) (enc : TypeId × Value → H) (w : World) (sp : Nat → Bool) (hd : Bool) (fuel : Nat) (cs : List Value) (x : DataW H × List MemPlace),
    DataW.trod enc P w 0 sp hd fuel t cs = some x → (∀ n ∈ x.1.weights P t, n ≤ 140737488351232) → ∃ a, d.K w a cs ∧ ok a
def okI (n : Int) : Prop := -9223372036854775808 ≤ n ∧ n ≤ 9223372036854775807
theorem Y4q {P : Program} {t : TypeId} (ht : P.underlying t = some (.int .i64)) (hc : P.cellsOf t = 1) : Opens P t (Kd.int .i64) okI :=
  ⟨hc, fun H enc w sp hd fuel cs x h _ => by
    obtain ⟨n, rfl, _, hw⟩ := DataW.trod_int ht h
    exact ⟨n, rfl, bounds_i64 hw⟩⟩
theorem Y3Q {P : Program} {t : TypeId} (ht : P.underlying t = some .bool) (hc : P.cellsOf t = 1) : Opens P t Kd.bool (fun _ => True) :=
  ⟨hc, fun H enc w sp hd fuel cs x h _ => by
    obtain ⟨n, rfl, _⟩ := DataW.trod_bool ht h
    exact ⟨n, rfl, trivial⟩⟩
theorem Y22 {H : Type} {P : Program} {e : TypeId} {n : Nat} : ∀ {ds : List (DataW H)} {d : DataW H}, d ∈ ds → n ∈ d.weights P e → n ∈ DataW.weightsAll P e ds
  | d0 :: ds, d, hd, hn => by
    rw [DataW.weightsAll, List.mem_append]
    rcases List.mem_cons.1 hd with rfl | hd
    · exact .inl hn
    · exact .inr (Y22 hd hn)
theorem Y3h {α : Type} {P : Program} {t e : TypeId} {d : Kd α} {ok : α → Prop} (ht : P.underlying t = some (.slice e)) (hc : P.cellsOf t = 1) {B : Nat} (hB : P.bytesOf e = B) (ho : Opens P e d ok) :
    Opens P t (Kd.slice e d) (fun xs => xs.length ≤ maxLen ∧ xs.length * B ≤ 140737488351232 ∧ ∀ a ∈ xs, ok a) := by
  refine ⟨hc, fun H enc w sp hd fuel cs x h hw => ?_⟩
  rcases DataW.trod_slice ht h with ⟨rfl, _⟩ | ⟨a, len, cap, elems, rest, n, _, rfl, rfl, _, hlc, hcm, hel, helem, _, _⟩
  · exact ⟨[], ⟨none, 0, rfl, Nat.le_refl _, Kd.C_nil d w⟩, by simp, by simp, by simp⟩
  · have hwt : ∀ m ∈ (elems.length + rest.length) * P.bytesOf e :: (DataW.weightsAll P e (elems.map (·.1)) ++ DataW.weightsAll P e (rest.map (·.1))), m ≤ 140737488351232 := by
      intro m hm
      refine hw m ?_
      simp only [DataW.weights, ht, List.length_map]
      exact hm
    have key : ∀ i : Fin len, ∃ p : α, ok p ∧ ∃ c : List Value, c.length = d.sz ∧ d.K w p c ∧ ∀ j u, c[j]? = some u → w.cell? (a.add (i.1 * d.sz + j)) = some u := by
      intro i
      have hi := helem i.1 i.2
      have hlt : i.1 < elems.length := by have := i.2; omega
      rw [List.getElem?_eq_getElem hlt] at hi
      obtain ⟨c, hc1, hc2⟩ := Option.bind_eq_some_iff.1 hi
      obtain ⟨_, hl, hcell⟩ := World.cells?_some hc1
      obtain ⟨p, hp, hok⟩ := ho.2 H enc w sp hd n c _ hc2 (fun m hm => hwt m (List.mem_cons_of_mem _ (List.mem_append_left _ (Y22 (List.mem_map.2 ⟨_, List.getElem_mem hlt, rfl⟩) hm))))
      refine ⟨p, hok, c, by rw [hl, ho.1], hp, fun j u hu => ?_⟩
      have hj : j < P.cellsOf e := by rw [← hl]; exact (List.getElem?_eq_some_iff.1 hu).1
      have hh := hcell j hj
      rw [hu, Addr.add_add, ho.1] at hh
      exact hh
    have hlen : (List.ofFn fun i : Fin len => Classical.choose (key i)).length = len := List.length_ofFn
    have hmx : len ≤ 9223372036854775807 := by unfold maxLen at hcm; omega
    refine ⟨List.ofFn fun i : Fin len => Classical.choose (key i), ⟨some a, cap, by rw [hlen], by rw [hlen]; exact hlc, ?_⟩, by rw [hlen]; unfold maxLen at hcm ⊢; omega, ?_, ?_⟩
    · refine ⟨rfl, by rw [hlen]; exact hmx, fun _ => ⟨a, rfl, fun j p hp => ?_⟩⟩
      rw [List.getElem?_ofFn] at hp
      split at hp
      · rename_i hj
        injection hp with hp
        subst hp
        exact (Classical.choose_spec (key ⟨j, hj⟩)).2
      · cases hp
    · rw [hlen, ← hB]
      have := hwt _ List.mem_cons_self
      exact Nat.le_trans (Nat.mul_le_mul_right _ (by omega)) this
    · intro p hp
      obtain ⟨i, rfl⟩ := List.mem_ofFn.1 hp
      exact (Classical.choose_spec (key i)).1
def Y3t {α : Type} (P : Program) (fs : List Field) (o : Nat) (d : Kd α) (ok : α → Prop) : Prop :=
  ∀ (H : Type) (enc : TypeId × Value → H) (w : World) (sp : Nat → Bool) (hd : Bool) (fuel : Nat) (cs : List Value) (ys : List (DataW H × List MemPlace)),
    ys.length = fs.length → (∀ (i : Nat) (f : Field), fs[i]? = some f → DataW.trod enc P w 0 sp hd fuel f.type ((cs.drop f.offset).take (P.cellsOf f.type)) = ys[i]?) → cs.length = o + d.sz →
    (∀ n ∈ DataW.weightsEach P (fs.map (·.type)) (ys.map (·.1)), n ≤ 140737488351232) → ∃ a, d.K w a (cs.drop o) ∧ ok a
theorem Y1Y {α : Type} {P : Program} {f : Field} {o : Nat} {d : Kd α} {ok : α → Prop} (hf : f.offset = o) (ho : Opens P f.type d ok) : Y3t P [f] o d ok := by
  intro H enc w sp hd fuel cs ys hl hy hcs hw
  match ys, hl with
  | [y], _ =>
    have h := hy 0 f rfl
    have e : (cs.drop f.offset).take (P.cellsOf f.type) = cs.drop o := by rw [hf, ho.1]; exact List.take_of_length_le (by rw [List.length_drop]; omega)
    rw [e] at h
    exact ho.2 H enc w sp hd fuel _ y h (fun n hn => hw n (by simpa [DataW.weightsEach] using hn))
theorem Y1k {α β : Type} {P : Program} {f : Field} {fs : List Field} {o : Nat} {d : Kd α} {d' : Kd β} {ok : α → Prop} {ok' : β → Prop} (hf : f.offset = o) (ho : Opens P f.type d ok) (hr : Y3t P fs (o + d.sz) d' ok') :
    Y3t P (f :: fs) o (Kd.pair d d') (fun a => ok a.1 ∧ ok' a.2) := by
  intro H enc w sp hd fuel cs ys hl hy hcs hw
  match ys, hl with
  | y :: ys, hl =>
    have h := hy 0 f rfl
    have hcs' : cs.length = o + (d.sz + d'.sz) := hcs
    rw [hf, ho.1] at h
    obtain ⟨a, ka, oa⟩ := ho.2 H enc w sp hd fuel _ y h (fun n hn => hw n (by simp only [List.map_cons, DataW.weightsEach, List.mem_append]; exact .inl hn))
    obtain ⟨b, kb, ob⟩ := hr H enc w sp hd fuel cs ys (by simpa using hl) (fun i g hg => by simpa using hy (i + 1) g (by simpa using hg)) (by omega) (fun n hn => hw n (by simp only [List.map_cons, DataW.weightsEach, List.mem_append]; exact .inr hn))
    refine ⟨(a, b), ⟨_, _, ?_, ka, kb⟩, oa, ob⟩
    rw [← List.drop_drop, List.take_append_drop]
theorem Y1K {α β : Type} {P : Program} {t : TypeId} {fs : List Field} {d : Kd α} {ok : α → Prop} (ht : P.underlying t = some (.struct fs.toArray)) (hc : P.cellsOf t = d.sz) (ho : Y3t P fs 0 d ok) (f : β → α) (g : α → β) (hfg : ∀ a, f (g a) = a) :
    Opens P t (Kd.iso d f) (fun b => ok (f b)) := by
  refine ⟨hc, fun H enc w sp hd fuel cs x h hw => ?_⟩
  obtain ⟨xs, n, _, rfl, hl, hxl, hx⟩ := DataW.trod_struct ht h
  obtain ⟨a, ha, hok⟩ := ho H enc w sp hd n cs xs (by simpa using hxl) (fun i f hf => hx i f (by simpa using hf)) (by omega) (fun m hm => hw m (by simp only [DataW.weights, ht]; exact hm))
  refine ⟨g a, ?_, by show ok (f (g a)); rw [hfg]; exact hok⟩
  show d.K w (f (g a)) cs
  rw [hfg]
  exact ha
section
variable {H : Type} {enc : TypeId × Value → H} {P : Program} {W : World} {ts : List TypeId} {ds : List (DataW H)} {j : Nat} {t : TypeId} {v : Value} {dd : DataW H} {p : List MemPlace} {sp : Nat → Bool} {hd : Bool}
theorem Y3F {α : Type} {d : Kd α} {ok : α → Prop} {r : Reach} {b : Nat} {fs : Array Field} (ho : Opens P t d ok) (ht : P.underlying t = some (.struct fs)) (hv : Value.okWide P W r b t v)
    (hsz : (DataW.weightsEach P ts ds).all (· ≤ reachBytes) = true) (htj : ts[j]? = some t) (hdj : ds[j]? = some dd) (h : DataW.Trod enc P W 0 sp hd t v dd p) : ∃ (a : α) (cs : Array Value), v = .agg cs ∧ d.K W a cs.toList ∧ ok a := by
  obtain ⟨cs, rfl, _⟩ := okWide_struct ht hv
  obtain ⟨fuel, hf⟩ := h
  obtain ⟨a, ha, hok⟩ := ho.2 H enc W sp hd fuel _ _ hf (fun n hn => by
    have := List.all_eq_true.1 hsz _ (DataW.weights_mem_each htj hdj n hn)
    exact of_decide_eq_true this)
  exact ⟨a, cs, rfl, ha, hok⟩
end
end Go.Proofs.Yteopkkoblbmggaa.Open
end
section
set_option linter.unusedVariables false
namespace Go.Proofs.Yteopkkoblbmggaa.P
open Go.RowKit Go.Proofs.YteopkkoblbmggaaW.PrintWords Go.Proofs.YteopkkoblbmggaaW.PrintLast Go.Proofs.YteopkkoblbmggaaW.PrintMore
set_option maxRecDepth 100000 in
theorem Y46 : Y8.f 400 = some true := by decide +kernel
theorem Y2B (k : Nat) (hk : 400 ≤ k) : Y8.f k = some true := Y36 (fun k => Y8.mono k) hk Y46
theorem Y4N (d : Int) (l : List S30) : YV.f d l = some (decide (40 < l.length)) := by
  unfold YV.f
  congr 1
  rw [decide_eq_decide]
  omega
theorem Y5L (d : Int) (l : List S30) : ∃ b, Y12.f d l = some b ∧ (b = false → l.length ≤ 513) := by
  unfold Y12.f
  rw [Y4N, Option.bind_some]
  by_cases h : 40 < l.length
  · rw [if_pos (by simpa using h)]
    by_cases h2 : (l.length : Int) < 511
    · rw [if_pos h2]; exact ⟨true, rfl, fun h => by cases h⟩
    · rw [if_neg h2]
      refine ⟨_, rfl, fun hq => ?_⟩
      simp at hq
      omega
  · rw [if_neg (by simpa using h)]
    exact ⟨false, rfl, fun _ => by omega⟩
end Go.Proofs.Yteopkkoblbmggaa.P
end
section
set_option linter.unusedVariables false
set_option linter.unusedSimpArgs false
namespace Go.Proofs.Yteopkkoblbmggaa.P
open Go.RowKit Go.Proofs.YteopkkoblbmggaaW.PrintWords Go.Proofs.YteopkkoblbmggaaW.PrintLast Go.Proofs.YteopkkoblbmggaaW.PrintMore
theorem Y4a (j : Nat) (k c : Int) (h : ¬ (k < 1 ∨ 4 < k)) : Yo.f (j + 1) k c = some (decide (colP k c)) := by
  unfold Yo.f Yo.j0 colP
  grind
theorem Y2J (j : Nat) (x : Bool) (k c b l d v m : Int) (h1 : ¬ (k < 1 ∨ 4 < k)) (hc : 0 ≤ c ∧ c ≤ 8) : Yc.j1 (j + 2) x k c b l d v m = some (if x = true then 1 else sayC k c d v m) := by
  simp only [Yc.j1, sayC]
  rw [Y35 (c - 2) (by omega) (by omega)]
  cases x with
  | true => simp
  | false =>
    simp only [if_neg (show ¬ (false = true) by decide)]
    by_cases k1 : k = 1
    · rw [if_pos k1, if_pos k1]
      have e : YP.f d v = some (if 0 ≤ d ∧ d ≤ 8 ∧ -1 ≤ v ∧ v ≤ 1 then 0 else 1) := YQ.dcheck_eq d v
      rw [e, Option.bind_some]
      by_cases h : 0 ≤ d ∧ d ≤ 8 ∧ -1 ≤ v ∧ v ≤ 1
      · rw [if_pos h, if_pos h, if_pos rfl]; split <;> rfl
      · rw [if_neg h, if_neg h, if_neg (by decide)]
    · rw [if_neg k1, if_neg k1]
      by_cases k3 : k = 3
      · rw [if_pos k3, if_neg (by omega), if_pos k3]
        simp only [YQ.f, Option.bind_some]
      · rw [if_neg k3, if_neg k3]
        simp only [Yc.j2]
        by_cases k2 : k = 2
        · by_cases h : d = 0 <;> by_cases h' : v = 0 <;> by_cases h'' : m = 0 <;> simp [h, h', h'', k2]
        · have k4 : k = 4 := by omega
          by_cases h : d = 0 <;> by_cases h' : v = 0 <;> simp [k4, h, h']
          by_cases a : m < -16 <;> by_cases a' : 16 < m <;> by_cases a'' : m = 0 <;> simp [a, a', a'']
theorem Y3T (j : Nat) (x : Bool) (k c b l d v m : Int) (hx : x = false) (h1 : ¬ (k < 1 ∨ 4 < k)) : Yc.j0 (j + 3) x k c b l d v m = some (chkP k c b l d v m) := by
  subst hx
  simp only [Yc.j0, chkP, if_neg h1]
  rw [Y4a (j + 1) k c h1, if_neg (by decide)]
  simp only [Option.bind_some, decide_eq_true_eq]
  by_cases h2 : colP k c
  · have hc : 0 ≤ c ∧ c ≤ 8 := by unfold colP at h2; grind
    rw [if_pos h2, if_neg (not_not_intro h2), Y2J j _ k c b l d v m h1 hc, Y2J j _ k c b l d v m h1 hc]
    by_cases h3 : b < 0 ∨ 8191 < b
    · rw [if_pos (by omega : b < 0 ∨ 8191 < b ∨ l < 1 ∨ 8192 - b < l)]
      rcases h3 with h3 | h3
      · rw [if_pos h3]; rfl
      · rw [if_neg (by omega), if_pos (by omega)]; rfl
    · rw [Y35 (8192 - b) (by omega) (by omega), if_neg (by omega), if_neg (by omega)]
      by_cases h4 : l < 1 ∨ 8192 - b < l
      · rw [if_pos (by omega : b < 0 ∨ 8191 < b ∨ l < 1 ∨ 8192 - b < l)]
        rcases h4 with h4 | h4
        · rw [if_pos h4]; rfl
        · by_cases h5 : l < 1
          · rw [if_pos h5]; rfl
          · rw [if_neg h5, if_pos (by simpa using h4)]
      · rw [if_neg (by omega), if_neg (by simp; omega), if_neg (by omega : ¬ (b < 0 ∨ 8191 < b ∨ l < 1 ∨ 8192 - b < l))]
  · rw [if_neg h2, if_pos h2]
theorem Y3k (j : Nat) (k c b l d v m : Int) : Yc.f (j + 3) k c b l d v m = some (chkP k c b l d v m) := by
  unfold Yc.f
  by_cases h1 : k < 1 ∨ 4 < k
  · have e : chkP k c b l d v m = 9 := by rw [chkP, if_pos h1]
    rw [e]
    rcases h1 with h1 | h1
    · rw [if_pos h1]; simp [Yc.j0]
    · rw [if_neg (by omega)]; simp [Yc.j0, h1]
  · rw [if_neg (by omega)]
    exact Y3T j _ k c b l d v m (by simp; omega) h1
theorem Y3V (c d : Int) : YF.f c d = some (valP c d) := by
  unfold YF.f valP
  by_cases h1 : 1 ≤ c <;> by_cases h2 : c ≤ 1000000 <;> by_cases h3 : 1 ≤ d <;> by_cases h4 : d ≤ 64 <;> simp [h1, h2, h3, h4, GE.ge]
theorem Y30 (a b c d : Int) : YE.f a b c d = some (lessP a b c d) := by
  unfold YE.f lessP
  by_cases h2 : a = c
  · simp [h2]
  · simp [h2]
theorem Y5w (j : Nat) (x : Bool) (a0 a1 a2 a3 a4 : Int) (a5 : Bool) (a6 a7 a8 a9 a10 a11 a12 : Int) :
    Ye.j0 (j + 5) x a0 a1 a2 a3 a4 a5 a6 a7 a8 a9 a10 a11 a12 = some (if x = true then 43 else if a2 < 0 ∨ 12 ≤ a2 then 33
      else if a5 = true then (if a6 = 0 ∧ a7 = 0 ∧ a8 = 0 ∧ a9 = 0 ∧ a10 = 0 ∧ a11 = 0 ∧ a12 = 0 then 0 else 2) else chkP a6 a7 a8 a9 a10 a11 a12) := by
  have e := Y56 (j + 1) x a0 a1 a2 a3 a4 a5 a6 a7 a8 a9 a10 a11 a12
  rw [← e]
  simp only [Ye.j0, Ye.j1, Yx.j0, Yx.j1, Y2t, Y3k]
theorem Y3b (j : Nat) (a0 a1 a2 a3 a4 : Int) (a5 : Bool) (a6 a7 a8 a9 a10 a11 a12 : Int) :
    Ye.f (j + 5) a0 a1 a2 a3 a4 a5 a6 a7 a8 a9 a10 a11 a12 = some (chkE a0 a1 a2 a3 a4 a5 a6 a7 a8 a9 a10 a11 a12) := by
  unfold Ye.f chkE
  simp only [Y3V, Y30, Option.bind_some, Y5w]
  cases h1 : valP a0 a1 <;> cases h2 : valP a3 a4 <;> cases h3 : lessP a0 a1 a3 a4 <;> simp
end Go.Proofs.Yteopkkoblbmggaa.P
end

/- Texts of this claim in one: VP39, VP40; no condition. -/
import Derived.Test.YteopkkoblbmggaaCAC
import Derived.Test.YteopkkoblbmggaaCAE
section
namespace Go.Proofs.Yteopkkoblbmggaa.P
open Go.RowKit Go.Proofs.YteopkkoblbmggaaW.PrintWords Go.Proofs.YteopkkoblbmggaaW.PrintLast Go.Proofs.YteopkkoblbmggaaW.PrintMore
attribute [local go_sem] YU YW Y14 Y15 YJ YK YV YX
set_option linter.unusedVariables false
set_option linter.unusedSimpArgs false
def Y11.f (a0_0 : Int) (a0_1 : Int) (a0_2 : Int) (a0_3 : Int) (a0_4 : Int) (a0_5 : Int) (a0_6 : Int) (a1_0 : Int) (a1_1 : Int) (a1_2 : Int) (a1_3 : Int) (a1_4 : Int) (a1_5 : Int) (a1_6 : Int) : Option (Bool) := if a0_2 < a1_2 then (some true) else (if a0_2 = a1_2 then (some (decide (a0_1 < a1_1))) else (some false))
set_option maxHeartbeats 8000000 in
set_option maxRecDepth 100000 in
theorem Y11.calls (a0_0 : Int) (a0_1 : Int) (a0_2 : Int) (a0_3 : Int) (a0_4 : Int) (a0_5 : Int) (a0_6 : Int) (a1_0 : Int) (a1_1 : Int) (a1_2 : Int) (a1_3 : Int) (a1_4 : Int) (a1_5 : Int) (a1_6 : Int) (r : Bool) (w : World) (h : Y11.f a0_0 a0_1 a0_2 a0_3 a0_4 a0_5 a0_6 a1_0 a1_1 a1_2 a1_3 a1_4 a1_5 a1_6 = some r) :
  Calls Try.prog 106 #[.agg #[.int .i64 a0_0, .int .i64 a0_1, .int .i64 a0_2, .int .i64 a0_3, .int .i64 a0_4, .int .i64 a0_5, .int .i64 a0_6], .agg #[.int .i64 a1_0, .int .i64 a1_1, .int .i64 a1_2, .int .i64 a1_3, .int .i64 a1_4, .int .i64 a1_5, .int .i64 a1_6]] w fun e w' => e = .returned (.bool r) ∧ Below w.heap.size w w' := by
 have hu28 := Try.underlying28
 have HB := Y0.mk (Below.refl w.heap.size w)
 have H : (if a0_2 < a1_2 then (some true) else (if a0_2 = a1_2 then (some (decide (a0_1 < a1_1))) else (some false))) = some r := h
 clear h
 by_cases c3 : a0_2 < a1_2
 ·rw [if_pos c3] at H
  have c3b0 := decide_eq_true c3
  clear c3
  obtain rfl := Option.some.inj H
  go_enter Try.func106, Try.ntmps106
  go_wp2_with (first | ((with_reducible refine Yj (N := 2) rfl ?_); refine Yl ?hg (N := 2) ?hd (cs := #[.int .i64 a0_0, .int .i64 a0_1, .int .i64 a0_2, .int .i64 a0_3, .int .i64 a0_4, .int .i64 a0_5, .int .i64 a0_6]) (t := 28) ?hr ?_; (case hd => rfl); (case hg => rfl); (case hr => first | (go_simp; done) | (go_simp; rfl)); intro g_0 hg w4 hbox hb; have n0_ := Y0.mk (Y4 (hU HB.out) hb); have n1_ := Y0.mk (hbox); have n2_ := gE hg HB; have n3_ := gE hg HB; clear HB; have HB := n0_; have B_0 := n1_; have W_0 := n2_; have G_0 := n3_; clear n0_ n1_ n2_ n3_; clear hb hbox hg) | ((with_reducible refine Yj (N := 3) rfl ?_); refine Yl ?hg (N := 3) ?hd (cs := #[.int .i64 a1_0, .int .i64 a1_1, .int .i64 a1_2, .int .i64 a1_3, .int .i64 a1_4, .int .i64 a1_5, .int .i64 a1_6]) (t := 28) ?hr ?_; (case hd => rfl); (case hg => rfl); (case hr => first | (go_simp; done) | (go_simp; rfl)); intro g_1 hg w5 hbox hb; have n0_ := Y0.mk (Y2 (bU B_0.out) hb); have n1_ := Y0.mk (Y4 (hU HB.out) hb); have n2_ := Y0.mk (hbox); have n3_ := gE hg HB; have n4_ := gE hg HB; have n5_ := gL hg B_0; have n6_ := gG hg B_0; clear B_0; clear HB; have B_0 := n0_; have HB := n1_; have B_1 := n2_; have W_1 := n3_; have G_1 := n4_; have N_0 := n5_; have N_1 := n6_; clear n0_ n1_ n2_ n3_ n4_ n5_ n6_; clear hb hbox hg; have hnb6 := N_0.out; have hnc6 := N_1.out; have z_5 := Y1 B_0.out; have f_3 := Y3 B_0.out; have z_0 := Y1 B_1.out; have f_0 := Y3 B_1.out))
  go_ret
  exact ⟨reT, hU HB.out⟩
 ·rw [if_neg c3] at H
  have c3b0 := decide_eq_false c3
  clear c3
  by_cases c9 : a0_2 = a1_2
  ·rw [if_pos c9] at H
   have c9b0 := bqT c9
   have c9b1 := bnF c9
   clear c9
   obtain rfl := Option.some.inj H
   go_enter Try.func106, Try.ntmps106
   go_wp2_with (first | ((with_reducible refine Yj (N := 2) rfl ?_); refine Yl ?hg (N := 2) ?hd (cs := #[.int .i64 a0_0, .int .i64 a0_1, .int .i64 a0_2, .int .i64 a0_3, .int .i64 a0_4, .int .i64 a0_5, .int .i64 a0_6]) (t := 28) ?hr ?_; (case hd => rfl); (case hg => rfl); (case hr => first | (go_simp; done) | (go_simp; rfl)); intro g_0 hg w10 hbox hb; have n0_ := Y0.mk (Y4 (hU HB.out) hb); have n1_ := Y0.mk (hbox); have n2_ := gE hg HB; have n3_ := gE hg HB; clear HB; have HB := n0_; have B_0 := n1_; have W_0 := n2_; have G_0 := n3_; clear n0_ n1_ n2_ n3_; clear hb hbox hg) | ((with_reducible refine Yj (N := 3) rfl ?_); refine Yl ?hg (N := 3) ?hd (cs := #[.int .i64 a1_0, .int .i64 a1_1, .int .i64 a1_2, .int .i64 a1_3, .int .i64 a1_4, .int .i64 a1_5, .int .i64 a1_6]) (t := 28) ?hr ?_; (case hd => rfl); (case hg => rfl); (case hr => first | (go_simp; done) | (go_simp; rfl)); intro g_1 hg w11 hbox hb; have n0_ := Y0.mk (Y2 (bU B_0.out) hb); have n1_ := Y0.mk (Y4 (hU HB.out) hb); have n2_ := Y0.mk (hbox); have n3_ := gE hg HB; have n4_ := gE hg HB; have n5_ := gL hg B_0; have n6_ := gG hg B_0; clear B_0; clear HB; have B_0 := n0_; have HB := n1_; have B_1 := n2_; have W_1 := n3_; have G_1 := n4_; have N_0 := n5_; have N_1 := n6_; clear n0_ n1_ n2_ n3_ n4_ n5_ n6_; clear hb hbox hg; have hnb12 := N_0.out; have hnc12 := N_1.out; have z_2 := Y1 B_0.out; have f_2 := Y3 B_0.out; have z_1 := Y1 B_1.out; have f_4 := Y3 B_1.out))
   go_ret
   exact ⟨reT, hU HB.out⟩
  ·rw [if_neg c9] at H
   have c9b0 := bqF c9
   have c9b1 := bnT c9
   obtain rfl := Option.some.inj H
   go_enter Try.func106, Try.ntmps106
   go_wp2_with (first | ((with_reducible refine Yj (N := 2) rfl ?_); refine Yl ?hg (N := 2) ?hd (cs := #[.int .i64 a0_0, .int .i64 a0_1, .int .i64 a0_2, .int .i64 a0_3, .int .i64 a0_4, .int .i64 a0_5, .int .i64 a0_6]) (t := 28) ?hr ?_; (case hd => rfl); (case hg => rfl); (case hr => first | (go_simp; done) | (go_simp; rfl)); intro g_0 hg w15 hbox hb; have n0_ := Y0.mk (Y4 (hU HB.out) hb); have n1_ := Y0.mk (hbox); have n2_ := gE hg HB; have n3_ := gE hg HB; clear HB; have HB := n0_; have B_0 := n1_; have W_0 := n2_; have G_0 := n3_; clear n0_ n1_ n2_ n3_; clear hb hbox hg) | ((with_reducible refine Yj (N := 3) rfl ?_); refine Yl ?hg (N := 3) ?hd (cs := #[.int .i64 a1_0, .int .i64 a1_1, .int .i64 a1_2, .int .i64 a1_3, .int .i64 a1_4, .int .i64 a1_5, .int .i64 a1_6]) (t := 28) ?hr ?_; (case hd => rfl); (case hg => rfl); (case hr => first | (go_simp; done) | (go_simp; rfl)); intro g_1 hg w16 hbox hb; have n0_ := Y0.mk (Y2 (bU B_0.out) hb); have n1_ := Y0.mk (Y4 (hU HB.out) hb); have n2_ := Y0.mk (hbox); have n3_ := gE hg HB; have n4_ := gE hg HB; have n5_ := gL hg B_0; have n6_ := gG hg B_0; clear B_0; clear HB; have B_0 := n0_; have HB := n1_; have B_1 := n2_; have W_1 := n3_; have G_1 := n4_; have N_0 := n5_; have N_1 := n6_; clear n0_ n1_ n2_ n3_ n4_ n5_ n6_; clear hb hbox hg; have hnb17 := N_0.out; have hnc17 := N_1.out; have z_3 := Y1 B_0.out; have f_5 := Y3 B_0.out; have z_4 := Y1 B_1.out; have f_1 := Y3 B_1.out))
   go_ret
   exact ⟨reT, hU HB.out⟩
mutual
def Yd.l0 : Nat → List (S28) → List (S28) → Int → Option ((List (S28)))
 | 0, _, _, _ => none
 | k + 1, x0, x3, x4 => if x4 < (x0.length : Int) then (if 0 ≤ x4 then (if x3.length < 2513169434916 then ((some (x3 ++ [(⟨(Yg x0 x4).f0, (Yg x0 x4).f1, (Yg x0 x4).f2, (Yg x0 x4).f3, (Yg x0 x4).f4, (Yg x0 x4).f5, (Yg x0 x4).f6⟩ : S28)] : List (S28))).bind fun y622 => (Yd.l1 k x0 y622 x4 (wrap64 ((y622.length : Int) - 1)))) else (none)) else (none)) else (some x3)
def Yd.l1 : Nat → List (S28) → List (S28) → Int → Int → Option ((List (S28)))
 | 0, _, _, _, _ => none
 | k + 1, x0, x3, x4, x5 => if x5 > 0 then (if 0 ≤ x5 then (if x5 < (x3.length : Int) then (if 0 ≤ (wrap64 (x5 - 1)) then (if (wrap64 (x5 - 1)) < (x3.length : Int) then ((Y11.f ((Yg x3 x5).f0) ((Yg x3 x5).f1) ((Yg x3 x5).f2) ((Yg x3 x5).f3) ((Yg x3 x5).f4) ((Yg x3 x5).f5) ((Yg x3 x5).f6) ((Yg x3 (wrap64 (x5 - 1))).f0) ((Yg x3 (wrap64 (x5 - 1))).f1) ((Yg x3 (wrap64 (x5 - 1))).f2) ((Yg x3 (wrap64 (x5 - 1))).f3) ((Yg x3 (wrap64 (x5 - 1))).f4) ((Yg x3 (wrap64 (x5 - 1))).f5) ((Yg x3 (wrap64 (x5 - 1))).f6)).bind fun t_0 => (if t_0 = true then (Yd.l1 k x0 ((x3.set (x5 : Int).toNat (⟨(Yg x3 (wrap64 (x5 - 1))).f0, (Yg x3 (wrap64 (x5 - 1))).f1, (Yg x3 (wrap64 (x5 - 1))).f2, (Yg x3 (wrap64 (x5 - 1))).f3, (Yg x3 (wrap64 (x5 - 1))).f4, (Yg x3 (wrap64 (x5 - 1))).f5, (Yg x3 (wrap64 (x5 - 1))).f6⟩ : S28)).set ((wrap64 (x5 - 1)) : Int).toNat (⟨(Yg x3 x5).f0, (Yg x3 x5).f1, (Yg x3 x5).f2, (Yg x3 x5).f3, (Yg x3 x5).f4, (Yg x3 x5).f5, (Yg x3 x5).f6⟩ : S28)) x4 (wrap64 (x5 - 1))) else (Yd.l0 k x0 x3 (wrap64 (x4 + 1))))) else (none)) else (none)) else (none)) else (none)) else (Yd.l0 k x0 x3 (wrap64 (x4 + 1)))
end
def Yd.f (k : Nat) (l0 : List (S28)) : Option ((List (S28))) := Yd.l0 k l0 ([] : List (S28)) 0
theorem Yd.mono_l : ∀ k, (∀ y0 y1 y2, LeO (Yd.l0 k y0 y1 y2) (Yd.l0 (k + 1) y0 y1 y2)) ∧ (∀ y0 y1 y2 y3, LeO (Yd.l1 k y0 y1 y2 y3) (Yd.l1 (k + 1) y0 y1 y2 y3))
 | 0 => ⟨fun _ _ _ r h => by simp [Yd.l0] at h, fun _ _ _ _ r h => by simp [Yd.l1] at h⟩
 | k + 1 => by
  obtain ⟨ih0, ih1⟩ := Yd.mono_l k
  refine ⟨?_, ?_⟩
  ·intro y0 y1 y2
   unfold Yd.l0
   repeat' first
   | (with_reducible exact ih0 _ _ _)
   | (with_reducible exact ih1 _ _ _ _)
   | (with_reducible exact LeO.refl _)
   | (with_reducible exact LeO.none _)
   | (with_reducible refine LeO.ite ?_ ?_)
   | (with_reducible refine LeO.bind ?_ (fun _ => ?_))
  ·intro y0 y1 y2 y3
   unfold Yd.l1
   repeat' first
   | (with_reducible exact ih0 _ _ _)
   | (with_reducible exact ih1 _ _ _ _)
   | (with_reducible exact LeO.refl _)
   | (with_reducible exact LeO.none _)
   | (with_reducible refine LeO.ite ?_ ?_)
   | (with_reducible refine LeO.bind ?_ (fun _ => ?_))
theorem Yd.mono : ∀ a0 k, LeO (Yd.f k a0) (Yd.f (k + 1) a0) := by
 intro a0 k
 obtain ⟨ih0, ih1⟩ := Yd.mono_l k
 unfold Yd.f
 repeat' first
   | (with_reducible exact ih0 _ _ _)
   | (with_reducible exact ih1 _ _ _ _)
   | (with_reducible exact LeO.refl _)
   | (with_reducible exact LeO.none _)
   | (with_reducible refine LeO.ite ?_ ?_)
   | (with_reducible refine LeO.bind ?_ (fun _ => ?_))
def Yd.T7 : Bool × List (List Nat × List Nat) := (true, [([], []), ([0], [0]), ([1], [1]), ([2], [2]), ([2], [2]), ([3, 4, 2], [2, 3, 4]), ([5, 2], [2, 5]), ([2], [2]), ([2], [2]), ([8, 2], [2, 8]), ([7, 9, 2], [2, 7, 9]), ([10, 2], [2, 10]), ([6, 11, 2, 2], [2, 6, 11]), ([2, 12], [2, 12])])
def Yd.B7 : List Nat := [0, 1, 3, 7, 7, 31, 63, 7, 7, 263, 903, 1927, 4095, 8191]
theorem Yd.tab7 : rtab .any (opsOf Try.f74 7) = Yd.T7 := by kernel_rfl
theorem Yd.bits7 : Y1z Yd.T7.2 Yd.B7 = true := by kernel_rfl
set_option maxHeartbeats 8000000 in
set_option maxRecDepth 100000 in
theorem Yd.calls (k : Nat) (A0 : Option Addr) (c0 : Nat) (l0 : List (S28)) (r : List (S28)) (w : World) (hr0 : Kd.C k28 w A0 l0.length l0) (hc0 : l0.length ≤ c0) (h : Yd.f k l0 = some r) :
  Calls Try.prog 74 #[.slice A0 l0.length c0] w fun e w' => ∃ v0_ : Value, e = .returned (v0_) ∧ Kd.R k28 28 w' w.heap.size (fun _ => True) v0_ r ∧ Below w.heap.size w w' := by
 have hu28 := Try.underlying28
 have HR0 := Y0.mk hr0
 have HC0 := Y0.mk hc0
 clear hr0 hc0
 have HB := Y0.mk (Below.refl w.heap.size w)
 have H : (Yd.l0 k l0 ([] : List (S28)) 0) = some r := h
 clear h
 have H' := Y0.mk H
 clear H
 go_enter Try.func74, Try.ntmps74
 go_wp2
 go_loopg [3, 4] k (fun kq v3 v4 w' => ∃ (x3_1 : List (S28)) (x4_1 : Int), v4 = .int .i64 x4_1 ∧ Y0 (Yd.l0 kq l0 x3_1 x4_1 = some r) ∧ Y0 (kq ≤ k) ∧ Y0 (Kd.R k28 28 w' w.heap.size (fun _ => True) v3 x3_1) ∧ Y0 (Below w.heap.size w w'))
 case atStart => exact ⟨(([] : List (S28))), (0), reS, H', ⟨Nat.le_refl _⟩, ⟨by first | exact Kd.R_nil _ _ _ _ _ | exact Kd.N_nil _ _ _ _ _ | exact Kd.V_nil _ _ _ _ _ | exact Kd.Q_nil _ _ _ _ _ | exact Kd.S_nil _ _ _ _ _⟩, ⟨hU HB.out⟩⟩
 case round =>
  clear H'
  obtain ⟨x3_1, x4_1, rfl, HA, HK1, HO_3, HB⟩ := hrel
  cases gk with
  | zero => exact absurd HA.out (by simp [Yd.l0])
  | succ k1 =>
   have H := HA.out
   clear HA
   simp only [Yd.l0] at H
   by_cases c2 : x4_1 < (l0.length : Int)
   ·rw [if_pos c2] at H
    have c2b0 := decide_eq_true c2
    clear c2
    obtain ⟨c3, H⟩ := iS H
    have c3b0 := decide_eq_true c3
    clear c3
    obtain ⟨c4, H⟩ := iS H
    have LMc4 := Y0.mk c4
    clear c4
    obtain ⟨y622, hy622⟩ : ∃ y_ : List (S28), y_ = (x3_1 ++ [(⟨(Yg l0 x4_1).f0, (Yg l0 x4_1).f1, (Yg l0 x4_1).f2, (Yg l0 x4_1).f3, (Yg l0 x4_1).f4, (Yg l0 x4_1).f5, (Yg l0 x4_1).f6⟩ : S28)]) := ⟨_, rfl⟩
    replace H : (Yd.l1 k1 l0 y622 x4_1 (wrap64 ((y622.length : Int) - 1))) = some r := by first | (rw [hy622]; with_reducible exact H) | (have H2_ := (Option.bind_some _ _).symm.trans H; rw [hy622]; with_reducible exact H2_) | (have H2_ := (Option.bind_some _ _).symm.trans H; with_reducible exact H2_) | with_reducible exact H | (rw [hy622]; exact H) | exact H
    have Ny622 := Y0.mk hy622
    clear hy622
    have H' := Y0.mk H
    clear H
    have p621 : 0 ≤ (x4_1 : Int) := of_decide_eq_true (by first | (with_reducible assumption) | assumption)
    have q621 : x4_1 < (l0.length : Int) := of_decide_eq_true (by first | (with_reducible assumption) | assumption)
    obtain ⟨d_4, e621, m_j, m_e, m_g, m_h, m_f, m_i, m_k⟩ := Y1C HR0.out x4_1 p621 q621
    cases e621
    replace m_j := hbC HB m_j
    replace m_e := hbC HB m_e
    replace m_g := hbC HB m_g
    replace m_h := hbC HB m_h
    replace m_f := hbC HB m_f
    replace m_i := hbC HB m_i
    replace m_k := hbC HB m_k
    replace p621 := eq_true p621
    replace q621 := eq_true q621
    go_wp2_with (first | ((with_reducible refine Y13 (b := .append) (xs := #[.tmp 13, .tmp 18]) rfl ?_); at_builtin; refine Kd.R_append k28 (w0 := w) w.heap.size rfl (.tmp 13) (.tmp 18) 38 28 (.agg #[(.int .i64 0), (.int .i64 0), (.int .i64 0), (.int .i64 0), (.int .i64 0), (.int .i64 0), (.int .i64 0)]) 56 rfl Try.underlying38 Y4E rfl (by decide) (by omega) u3 x3_1 (⟨(Yg l0 x4_1).f0, (Yg l0 x4_1).f1, (Yg l0 x4_1).f2, (Yg l0 x4_1).f3, (Yg l0 x4_1).f4, (Yg l0 x4_1).f5, (Yg l0 x4_1).f6⟩ : S28) [.int .i64 ((Yg l0 x4_1).f0), .int .i64 ((Yg l0 x4_1).f1), .int .i64 ((Yg l0 x4_1).f2), .int .i64 ((Yg l0 x4_1).f3), .int .i64 ((Yg l0 x4_1).f4), .int .i64 ((Yg l0 x4_1).f5), .int .i64 ((Yg l0 x4_1).f6)] (fun _ => True) (fun _ => False) rfl rfl ?aP (fun _ hk => hk.elim) ?aF ?aO ?aB ?aS ?aL ?_; (case aP => exact Y1Y _ _ _ (⟨(Yg l0 x4_1).f0, (Yg l0 x4_1).f1, (Yg l0 x4_1).f2, (Yg l0 x4_1).f3, (Yg l0 x4_1).f4, (Yg l0 x4_1).f5, (Yg l0 x4_1).f6⟩ : S28)); (case aB => exact (hU HB.out)); (case aF => exact (fun _ _ => trivial)); (case aO => exact (Kd.rU HO_3.out)); (case aS => exact (Yn (hU HB.out))); (case aL => have := LMc4.out; omega); intro v_0 w5 ho hb hg hat; rw [← Ny622.out] at ho; have n0_ := Y0.mk (hb); have n1_ := Y0.mk (ho); clear HB; clear HO_3; have HB := n0_; have O_0 := n1_; clear n0_ n1_; clear ho hb hg hat; obtain ⟨Ao6, co6, eo6⟩ := Kd.R_slice O_0.out; subst eo6))
    go_loopg [5] k1 (fun kq v5 w' => ∃ (x3_2 : List (S28)) (x5_2 : Int), v5 = .int .i64 x5_2 ∧ Y0 (Yd.l1 kq l0 x3_2 x4_1 x5_2 = some r) ∧ Y0 (kq ≤ k1) ∧ Y0 (Kd.R k28 28 w' w.heap.size (fun _ => True) (.slice Ao6 y622.length co6) x3_2) ∧ Y0 (Below w.heap.size w w'))
    case atStart => exact ⟨(y622), (wrap64 ((y622.length : Int) - 1)), reS, H', ⟨Nat.le_refl _⟩, ⟨by (with_reducible repeat (first | apply Kd.R_alloc | apply Kd.R_drewN | apply Kd.R_drew)); exact O_0.out⟩, ⟨hU HB.out⟩⟩
    case round =>
     clear H'
     try clear c2
     try clear c2b0
     try clear p2
     try clear c3
     try clear c3b0
     try clear c4
     try clear p6
     try clear q6
     try clear hx6
     try clear m_j
     try clear m_e
     try clear m_g
     try clear m_h
     try clear m_f
     try clear m_i
     try clear m_k
     try clear p621
     try clear q621
     obtain ⟨x3_2, x5_2, rfl, HA, HK2, HO_3, HB⟩ := hrel
     have hl3_2 := (Kd.R_reads' HO_3.out).1
     rw [hl3_2] at HO_3
     (try simp only [hl3_2])
     cases gk with
     | zero => exact absurd HA.out (by simp [Yd.l1])
     | succ k2 =>
      have H := HA.out
      clear HA
      simp only [Yd.l1] at H
      by_cases c7 : x5_2 > 0
      ·rw [if_pos c7] at H
       have c7b0 := decide_eq_true c7
       clear c7
       obtain ⟨c8, H⟩ := iS H
       have c8b0 := decide_eq_true c8
       clear c8
       obtain ⟨c9, H⟩ := iS H
       have c9b0 := decide_eq_true c9
       clear c9
       obtain ⟨ji10, hji10⟩ : ∃ j_ : Int, (wrap64 (x5_2 - 1)) = j_ := ⟨_, rfl⟩
       replace H : (if 0 ≤ (ji10) then (if (ji10) < (x3_2.length : Int) then ((Y11.f ((Yg x3_2 x5_2).f0) ((Yg x3_2 x5_2).f1) ((Yg x3_2 x5_2).f2) ((Yg x3_2 x5_2).f3) ((Yg x3_2 x5_2).f4) ((Yg x3_2 x5_2).f5) ((Yg x3_2 x5_2).f6) ((Yg x3_2 (ji10)).f0) ((Yg x3_2 (ji10)).f1) ((Yg x3_2 (ji10)).f2) ((Yg x3_2 (ji10)).f3) ((Yg x3_2 (ji10)).f4) ((Yg x3_2 (ji10)).f5) ((Yg x3_2 (ji10)).f6)).bind fun t_0 => (if t_0 = true then (Yd.l1 k2 l0 ((x3_2.set (x5_2 : Int).toNat (⟨(Yg x3_2 (ji10)).f0, (Yg x3_2 (ji10)).f1, (Yg x3_2 (ji10)).f2, (Yg x3_2 (ji10)).f3, (Yg x3_2 (ji10)).f4, (Yg x3_2 (ji10)).f5, (Yg x3_2 (ji10)).f6⟩ : S28)).set ((ji10) : Int).toNat (⟨(Yg x3_2 x5_2).f0, (Yg x3_2 x5_2).f1, (Yg x3_2 x5_2).f2, (Yg x3_2 x5_2).f3, (Yg x3_2 x5_2).f4, (Yg x3_2 x5_2).f5, (Yg x3_2 x5_2).f6⟩ : S28)) x4_1 ji10) else (Yd.l0 k2 l0 x3_2 (wrap64 (x4_1 + 1))))) else (none)) else (none)) = some r := by first | (rw [hji10] at H; exact H) | (simp only [hji10] at H ⊢; exact H)
       have hji10w : (IntKind.i64.wrap (x5_2 - 1)) = ji10 := (i64_w _).trans hji10
       obtain ⟨c11, H⟩ := iS H
       have c11b0 := decide_eq_true c11
       clear c11
       obtain ⟨c12, H⟩ := iS H
       have c12b0 := decide_eq_true c12
       clear c12
       obtain ⟨t_0, A130, H⟩ := bS H
       try dsimp only at H
       have A13 := Y0.mk A130
       clear A130
       by_cases c14 : t_0 = true
       ·subst c14
        rw [if_pos rfl] at H
        obtain ⟨y631, hy631⟩ : ∃ y_ : List (S28), y_ = (x3_2.set (x5_2 : Int).toNat (⟨(Yg x3_2 (ji10)).f0, (Yg x3_2 (ji10)).f1, (Yg x3_2 (ji10)).f2, (Yg x3_2 (ji10)).f3, (Yg x3_2 (ji10)).f4, (Yg x3_2 (ji10)).f5, (Yg x3_2 (ji10)).f6⟩ : S28)) := ⟨_, rfl⟩
        replace H : (Yd.l1 k2 l0 (y631.set ((ji10) : Int).toNat (⟨(Yg x3_2 x5_2).f0, (Yg x3_2 x5_2).f1, (Yg x3_2 x5_2).f2, (Yg x3_2 x5_2).f3, (Yg x3_2 x5_2).f4, (Yg x3_2 x5_2).f5, (Yg x3_2 x5_2).f6⟩ : S28)) x4_1 ji10) = some r := by first | (rw [hy631]; with_reducible exact H) | (have H2_ := (Option.bind_some _ _).symm.trans H; rw [hy631]; with_reducible exact H2_) | (have H2_ := (Option.bind_some _ _).symm.trans H; with_reducible exact H2_) | with_reducible exact H | (rw [hy631]; exact H) | exact H
        have Ny631 := Y0.mk hy631
        clear hy631
        obtain ⟨y632, hy632⟩ : ∃ y_ : List (S28), y_ = (y631.set ((ji10) : Int).toNat (⟨(Yg x3_2 x5_2).f0, (Yg x3_2 x5_2).f1, (Yg x3_2 x5_2).f2, (Yg x3_2 x5_2).f3, (Yg x3_2 x5_2).f4, (Yg x3_2 x5_2).f5, (Yg x3_2 x5_2).f6⟩ : S28)) := ⟨_, rfl⟩
        replace H : (Yd.l1 k2 l0 y632 x4_1 ji10) = some r := by first | (rw [hy632]; with_reducible exact H) | (have H2_ := (Option.bind_some _ _).symm.trans H; rw [hy632]; with_reducible exact H2_) | (have H2_ := (Option.bind_some _ _).symm.trans H; with_reducible exact H2_) | with_reducible exact H | (rw [hy632]; exact H) | exact H
        have Ny632 := Y0.mk hy632
        clear hy632
        have H' := Y0.mk H
        clear H
        try go_wp2
        replace HO_3 := Y0.mk (Kd.R_drew HO_3.out)
        replace HB := Y0.mk (Yy HB.out)
        have p625 : 0 ≤ (x5_2 : Int) := of_decide_eq_true (by first | (with_reducible assumption) | assumption)
        have q625 : x5_2 < (x3_2.length : Int) := of_decide_eq_true (by first | (with_reducible assumption) | assumption)
        obtain ⟨d_0, e625, m_4, m_6, m_c, m_3, m_b, m_9, m_8⟩ := Y1C (Kd.R_reads' HO_3.out).2.2 x5_2 p625 q625
        cases e625
        replace p625 := eq_true p625
        replace q625 := eq_true q625
        have p626 : 0 ≤ ((ji10) : Int) := of_decide_eq_true (by first | (with_reducible assumption) | assumption)
        have q626 : (ji10) < (x3_2.length : Int) := of_decide_eq_true (by first | (with_reducible assumption) | assumption)
        obtain ⟨d_1, e626, m_7, m_5, m_d, m_0, m_a, m_2, m_1⟩ := Y1C (Kd.R_reads' HO_3.out).2.2 (ji10) p626 q626
        obtain rfl : d_0 = d_1 := (by injection e626)
        replace p626 := eq_true p626
        replace q626 := eq_true q626
        refine Y1i (n := 14) (S := fun w' => w'.cell? (d_0.add ((x5_2).toNat * 7)) = some (.int .i64 ((Yg x3_2 x5_2).f0)) ∧ w'.cell? ⟨(d_0.add ((x5_2).toNat * 7)).block, (d_0.add ((x5_2).toNat * 7)).off + 1, none⟩ = some (.int .i64 ((Yg x3_2 x5_2).f1)) ∧ w'.cell? ⟨(d_0.add ((x5_2).toNat * 7)).block, (d_0.add ((x5_2).toNat * 7)).off + 2, none⟩ = some (.int .i64 ((Yg x3_2 x5_2).f2)) ∧ w'.cell? ⟨(d_0.add ((x5_2).toNat * 7)).block, (d_0.add ((x5_2).toNat * 7)).off + 3, none⟩ = some (.int .i64 ((Yg x3_2 x5_2).f3)) ∧ w'.cell? ⟨(d_0.add ((x5_2).toNat * 7)).block, (d_0.add ((x5_2).toNat * 7)).off + 4, none⟩ = some (.int .i64 ((Yg x3_2 x5_2).f4)) ∧ w'.cell? ⟨(d_0.add ((x5_2).toNat * 7)).block, (d_0.add ((x5_2).toNat * 7)).off + 5, none⟩ = some (.int .i64 ((Yg x3_2 x5_2).f5)) ∧ w'.cell? ⟨(d_0.add ((x5_2).toNat * 7)).block, (d_0.add ((x5_2).toNat * 7)).off + 6, none⟩ = some (.int .i64 ((Yg x3_2 x5_2).f6)) ∧ w'.cell? (d_0.add (((ji10)).toNat * 7)) = some (.int .i64 ((Yg x3_2 (ji10)).f0)) ∧ w'.cell? ⟨(d_0.add (((ji10)).toNat * 7)).block, (d_0.add (((ji10)).toNat * 7)).off + 1, none⟩ = some (.int .i64 ((Yg x3_2 (ji10)).f1)) ∧ w'.cell? ⟨(d_0.add (((ji10)).toNat * 7)).block, (d_0.add (((ji10)).toNat * 7)).off + 2, none⟩ = some (.int .i64 ((Yg x3_2 (ji10)).f2)) ∧ w'.cell? ⟨(d_0.add (((ji10)).toNat * 7)).block, (d_0.add (((ji10)).toNat * 7)).off + 3, none⟩ = some (.int .i64 ((Yg x3_2 (ji10)).f3)) ∧ w'.cell? ⟨(d_0.add (((ji10)).toNat * 7)).block, (d_0.add (((ji10)).toNat * 7)).off + 4, none⟩ = some (.int .i64 ((Yg x3_2 (ji10)).f4)) ∧ w'.cell? ⟨(d_0.add (((ji10)).toNat * 7)).block, (d_0.add (((ji10)).toNat * 7)).off + 5, none⟩ = some (.int .i64 ((Yg x3_2 (ji10)).f5)) ∧ w'.cell? ⟨(d_0.add (((ji10)).toNat * 7)).block, (d_0.add (((ji10)).toNat * 7)).off + 6, none⟩ = some (.int .i64 ((Yg x3_2 (ji10)).f6))) (ds := []) #[false, false, false, false, false, false, false, false, false, false, false, false, false, false] (by kernel_rfl) rfl rfl ⟨m_4, m_6, m_c, m_3, m_b, m_9, m_8, m_7, m_5, m_d, m_0, m_a, m_2, m_1⟩ (fun hHeld => ?_); refine Y10 Yd.tab7 Yd.bits7 (fun HT_ HW_ => ?_)
        generalize wr.drew = w17 at HO_3 HB m_4 m_6 m_c m_3 m_b m_9 m_8 m_7 m_5 m_d m_0 m_a m_2 m_1 hHeld ⊢
        refine puA 0 23 (bs 14 1) ?_
        refine puA 1 24 (bs 14 3) ?_
        refine puA 2 25 (bs 14 7) ?_
        refine puA 3 26 (bs 14 15) ?_
        refine puA 4 27 (bs 14 31) ?_
        refine puA 5 28 (bs 14 63) ?_
        refine puA 7 30 (bs 14 191) ?_
        refine puA 8 31 (bs 14 447) ?_
        refine puA 9 32 (bs 14 959) ?_
        refine puA 10 33 (bs 14 1983) ?_
        refine tkA 6 29 (bs 14 2047) hHeld ?_
        refine tkA 11 34 (bs 14 4095) hHeld ?_
        refine one_ (i := 12) (N := some 35) (bs 14 8191) rfl rfl (YZ HT_.out (by kernel_rfl)) (by decide) (fun K hK => ?_)
        refine goes_ Try.func106 (by kernel_rfl) rfl #[.agg #[.int .i64 ((Yg x3_2 x5_2).f0), .int .i64 ((Yg x3_2 x5_2).f1), .int .i64 ((Yg x3_2 x5_2).f2), .int .i64 ((Yg x3_2 x5_2).f3), .int .i64 ((Yg x3_2 x5_2).f4), .int .i64 ((Yg x3_2 x5_2).f5), .int .i64 ((Yg x3_2 x5_2).f6)], .agg #[.int .i64 ((Yg x3_2 (ji10)).f0), .int .i64 ((Yg x3_2 (ji10)).f1), .int .i64 ((Yg x3_2 (ji10)).f2), .int .i64 ((Yg x3_2 (ji10)).f3), .int .i64 ((Yg x3_2 (ji10)).f4), .int .i64 ((Yg x3_2 (ji10)).f5), .int .i64 ((Yg x3_2 (ji10)).f6)]] (by rfl) rfl rfl (by (try simp only [List.map_toArray, List.map_cons, List.map_nil]); first | done | (simp only [hji10]; rfl) | rfl | (simp only [List.length_drop, List.length_take]; rfl)) ?_
        with_reducible refine (Y11.calls ((Yg x3_2 x5_2).f0) ((Yg x3_2 x5_2).f1) ((Yg x3_2 x5_2).f2) ((Yg x3_2 x5_2).f3) ((Yg x3_2 x5_2).f4) ((Yg x3_2 x5_2).f5) ((Yg x3_2 x5_2).f6) ((Yg x3_2 (ji10)).f0) ((Yg x3_2 (ji10)).f1) ((Yg x3_2 (ji10)).f2) ((Yg x3_2 (ji10)).f3) ((Yg x3_2 (ji10)).f4) ((Yg x3_2 (ji10)).f5) ((Yg x3_2 (ji10)).f6) true _ A13.out).mono ?_
        rintro e w18 ⟨rfl, hb⟩
        have HS0_ := (hb.cell (World.block_lt_of_cell? _ _ (hHeld.1))).trans (hHeld.1)
        have HS1_ := (hb.cell (World.block_lt_of_cell? _ _ (hHeld.2.1))).trans (hHeld.2.1)
        have HS2_ := (hb.cell (World.block_lt_of_cell? _ _ (hHeld.2.2.1))).trans (hHeld.2.2.1)
        have HS3_ := (hb.cell (World.block_lt_of_cell? _ _ (hHeld.2.2.2.1))).trans (hHeld.2.2.2.1)
        have HS4_ := (hb.cell (World.block_lt_of_cell? _ _ (hHeld.2.2.2.2.1))).trans (hHeld.2.2.2.2.1)
        have HS5_ := (hb.cell (World.block_lt_of_cell? _ _ (hHeld.2.2.2.2.2.1))).trans (hHeld.2.2.2.2.2.1)
        have HS6_ := (hb.cell (World.block_lt_of_cell? _ _ (hHeld.2.2.2.2.2.2.1))).trans (hHeld.2.2.2.2.2.2.1)
        have HS7_ := (hb.cell (World.block_lt_of_cell? _ _ (hHeld.2.2.2.2.2.2.2.1))).trans (hHeld.2.2.2.2.2.2.2.1)
        have HS8_ := (hb.cell (World.block_lt_of_cell? _ _ (hHeld.2.2.2.2.2.2.2.2.1))).trans (hHeld.2.2.2.2.2.2.2.2.1)
        have HS9_ := (hb.cell (World.block_lt_of_cell? _ _ (hHeld.2.2.2.2.2.2.2.2.2.1))).trans (hHeld.2.2.2.2.2.2.2.2.2.1)
        have HS10_ := (hb.cell (World.block_lt_of_cell? _ _ (hHeld.2.2.2.2.2.2.2.2.2.2.1))).trans (hHeld.2.2.2.2.2.2.2.2.2.2.1)
        have HS11_ := (hb.cell (World.block_lt_of_cell? _ _ (hHeld.2.2.2.2.2.2.2.2.2.2.2.1))).trans (hHeld.2.2.2.2.2.2.2.2.2.2.2.1)
        have HS12_ := (hb.cell (World.block_lt_of_cell? _ _ (hHeld.2.2.2.2.2.2.2.2.2.2.2.2.1))).trans (hHeld.2.2.2.2.2.2.2.2.2.2.2.2.1)
        have HS13_ := (hb.cell (World.block_lt_of_cell? _ _ (hHeld.2.2.2.2.2.2.2.2.2.2.2.2.2))).trans (hHeld.2.2.2.2.2.2.2.2.2.2.2.2.2)
        refine ⟨_, rfl, ?_⟩
        replace HO_3 := Y0.mk (Kd.R_below (Kd.rU HO_3.out) hb)
        replace HB := Y0.mk (Y4 (hU HB.out) hb)
        (try clear hb)
        (try clear hb2)
        (try clear hk)
        (try clear hi)
        refine hK.out _ _ ⟨HS0_, HS1_, HS2_, HS3_, HS4_, HS5_, HS6_, HS7_, HS8_, HS9_, HS10_, HS11_, HS12_, HS13_⟩ (fun hHeld => ?_)
        clear hK K
        refine nmA 35 ?_
        refine puA 13 36 (bs 14 16383) ?_
        refine done_ (Y1h HT_.out (by kernel_rfl)) ?_
        have p628 : 0 ≤ (x5_2 : Int) := of_decide_eq_true (by first | (with_reducible assumption) | assumption)
        have q628 : x5_2 < (x3_2.length : Int) := of_decide_eq_true (by first | (with_reducible assumption) | assumption)
        obtain ⟨d_3, e628, m_18, m_q, m_v, m_u, m_t, m_o, m_1b⟩ := Y1C (Kd.R_reads' HO_3.out).2.2 x5_2 p628 q628
        obtain rfl : d_0 = d_3 := (by injection e628)
        replace p628 := eq_true p628
        replace q628 := eq_true q628
        try go_wp2_with (first | ((with_reducible refine Yj (N := 6) rfl ?_); refine Yl ?hg (N := 6) ?hd (cs := #[.int .i64 0, .int .i64 0, .int .i64 0, .int .i64 0, .int .i64 0, .int .i64 0, .int .i64 0]) (t := 28) ?hr ?_; (case hd => rfl); (case hg => rfl); (case hr => first | (go_simp; done) | (go_simp; rfl)); intro g_0 hg w19 hbox hb; have n0_ := Y0.mk (Kd.R_below (Kd.R_elderB (Kd.rU HO_3.out) g_0 (Nat.le_of_eq hg.symm)) hb); have n1_ := Y0.mk (Y4 (hU HB.out) hb); have n2_ := Y0.mk (hbox); have n3_ := gE hg HB; have n4_ := gE hg HB; clear HO_3; clear HB; have HO_3 := n0_; have HB := n1_; have B_0 := n2_; have W_0 := n3_; have G_0 := n4_; clear n0_ n1_ n2_ n3_ n4_; clear hb hbox hg; have z_1 := Y1 B_0.out; have f_0 := Y3 B_0.out) | ((with_reducible refine Y2m (t := 28) (p := 6) rfl ?_); refine Y2e (t := 28) (p := 6) (v := ?vo_w21) (w1 := (((((((w19.setCell ⟨g_0, 0, none⟩ (.int .i64 ((Yg x3_2 x5_2).f0))).setCell ⟨g_0, 1, none⟩ (.int .i64 ((Yg x3_2 x5_2).f1))).setCell ⟨g_0, 2, none⟩ (.int .i64 ((Yg x3_2 x5_2).f2))).setCell ⟨g_0, 3, none⟩ (.int .i64 ((Yg x3_2 x5_2).f3))).setCell ⟨g_0, 4, none⟩ (.int .i64 ((Yg x3_2 x5_2).f4))).setCell ⟨g_0, 5, none⟩ (.int .i64 ((Yg x3_2 x5_2).f5))).setCell ⟨g_0, 6, none⟩ (.int .i64 ((Yg x3_2 x5_2).f6)))) ?hg ?ho ?hn ?hr ?_; (case ho => rfl); (case hg => rfl); (case hn => rfl); (case hr => first | (go_simp; done) | (go_simp; rfl)); intro w21 hw; replace HO_3 : Y0 (Kd.R k28 28 w21 w.heap.size (fun k_ => k_ ≠ g_0) (.slice (some d_0) x3_2.length co6) x3_2) := ⟨(by rw [hw]; exact (by (with_reducible repeat (first | apply Kd.R_alloc | apply Kd.R_drewN | apply Kd.R_drew)); exact Kd.R_mono (Kd.R_far (p := ⟨g_0, 6, none⟩) (Kd.R_far (p := ⟨g_0, 5, none⟩) (Kd.R_far (p := ⟨g_0, 4, none⟩) (Kd.R_far (p := ⟨g_0, 3, none⟩) (Kd.R_far (p := ⟨g_0, 2, none⟩) (Kd.R_far (p := ⟨g_0, 1, none⟩) (Kd.R_far (p := ⟨g_0, 0, none⟩) (Kd.R_mono HO_3.out (fun k_ hk => (⟨hk, hk.2⟩ : _ ∧ k_ ≠ g_0))) (fun _ hk => hk.2) (.int .i64 ((Yg x3_2 x5_2).f0))) (fun _ hk => hk.2) (.int .i64 ((Yg x3_2 x5_2).f1))) (fun _ hk => hk.2) (.int .i64 ((Yg x3_2 x5_2).f2))) (fun _ hk => hk.2) (.int .i64 ((Yg x3_2 x5_2).f3))) (fun _ hk => hk.2) (.int .i64 ((Yg x3_2 x5_2).f4))) (fun _ hk => hk.2) (.int .i64 ((Yg x3_2 x5_2).f5))) (fun _ hk => hk.2) (.int .i64 ((Yg x3_2 x5_2).f6))) (fun _ hk => hk.1.2)))⟩; replace B_0 : Y0 (w21.heap[g_0]? = some (.cells #[.int .i64 ((Yg x3_2 x5_2).f0), .int .i64 ((Yg x3_2 x5_2).f1), .int .i64 ((Yg x3_2 x5_2).f2), .int .i64 ((Yg x3_2 x5_2).f3), .int .i64 ((Yg x3_2 x5_2).f4), .int .i64 ((Yg x3_2 x5_2).f5), .int .i64 ((Yg x3_2 x5_2).f6)] 28 (0, 0))) := ⟨(by rw [hw]; exact (by (with_reducible repeat (first | refine Y6 ?_ _ | refine Y8 ?_ | refine Y5 ?_ _)); apply Yt; (iterate 6 ((with_reducible repeat (first | refine Y6 ?_ _ | refine Y8 ?_ | refine Y5 ?_ _)); apply Y1q)); (with_reducible repeat (first | refine Y6 ?_ _ | refine Y8 ?_ | refine Y5 ?_ _)); exact B_0.out; simp only [List.setIfInBounds_toArray, List.set_cons_zero, List.set_cons_succ]))⟩; replace HB : Y0 (Below w.heap.size w w21) := ⟨(by rw [hw]; exact (hU HB.out))⟩; (try clear hw); have p630 : 0 ≤ ((ji10) : Int) := of_decide_eq_true (by first | (with_reducible assumption) | assumption); have q630 : (ji10) < (x3_2.length : Int) := of_decide_eq_true (by first | (with_reducible assumption) | assumption); obtain ⟨d_2, e630, m_s, m_n, m_m, m_1c, m_12, m_19, m_r⟩ := Y1C (Kd.R_reads' HO_3.out).2.2 (ji10) p630 q630; obtain rfl : d_0 = d_2 := (by injection e630); replace p630 := eq_true p630; replace q630 := eq_true q630; have p15 : 0 ≤ (x5_2 : Int) := of_decide_eq_true (by first | (with_reducible assumption) | assumption); have q15 : (x5_2 : Int) < ((x3_2.length : Int) : Int) := of_decide_eq_true (by first | (with_reducible assumption) | assumption); obtain ⟨go15, co15, eo15, g_1, gl15, cl15, HG15⟩ := Kd.R_form HO_3.out (by omega); (first | cases eo15 | (injection eo15 with ea_ en_ ec_; (first | subst ea_ | (injection ea_ with ea_; subst ea_)); subst ec_; clear en_)); have GB15 := Y0.mk g_1; have GG15 := Y0.mk HG15; clear g_1 gl15 HG15; (first | simp only [YY] at m_4 | skip); (first | simp only [YY] at m_6 | skip); (first | simp only [YY] at m_c | skip); (first | simp only [YY] at m_3 | skip); (first | simp only [YY] at m_b | skip); (first | simp only [YY] at m_9 | skip); (first | simp only [YY] at m_8 | skip); (first | simp only [YY] at m_7 | skip); (first | simp only [YY] at m_5 | skip); (first | simp only [YY] at m_d | skip); (first | simp only [YY] at m_0 | skip); (first | simp only [YY] at m_a | skip); (first | simp only [YY] at m_2 | skip); (first | simp only [YY] at m_1 | skip); (first | simp only [YY] at m_18 | skip); (first | simp only [YY] at m_q | skip); (first | simp only [YY] at m_v | skip); (first | simp only [YY] at m_u | skip); (first | simp only [YY] at m_t | skip); (first | simp only [YY] at m_o | skip); (first | simp only [YY] at m_1b | skip); (first | simp only [YY] at m_s | skip); (first | simp only [YY] at m_n | skip); (first | simp only [YY] at m_m | skip); (first | simp only [YY] at m_1c | skip); (first | simp only [YY] at m_12 | skip); (first | simp only [YY] at m_19 | skip); (first | simp only [YY] at m_r | skip); obtain ⟨ce15, hcl15, hM15, hcc15, hfr15⟩ := Kd.R_elem HO_3.out z28 (x5_2 : Int) p15 q15; obtain rfl := Y1I hM15; have m_1n : w21.cell? ⟨go15, (x5_2 : Int).toNat * 7, none⟩ = some (.int .i64 ((Yg x3_2 x5_2).f0)) := hcc15 0 _ rfl; have m_1g : w21.cell? ⟨go15, (x5_2 : Int).toNat * 7 + 1, none⟩ = some (.int .i64 ((Yg x3_2 x5_2).f1)) := hcc15 1 _ rfl; have m_1q : w21.cell? ⟨go15, (x5_2 : Int).toNat * 7 + 2, none⟩ = some (.int .i64 ((Yg x3_2 x5_2).f2)) := hcc15 2 _ rfl; have m_1p : w21.cell? ⟨go15, (x5_2 : Int).toNat * 7 + 3, none⟩ = some (.int .i64 ((Yg x3_2 x5_2).f3)) := hcc15 3 _ rfl; have m_1d : w21.cell? ⟨go15, (x5_2 : Int).toNat * 7 + 4, none⟩ = some (.int .i64 ((Yg x3_2 x5_2).f4)) := hcc15 4 _ rfl; have m_1m : w21.cell? ⟨go15, (x5_2 : Int).toNat * 7 + 5, none⟩ = some (.int .i64 ((Yg x3_2 x5_2).f5)) := hcc15 5 _ rfl; have m_1f : w21.cell? ⟨go15, (x5_2 : Int).toNat * 7 + 6, none⟩ = some (.int .i64 ((Yg x3_2 x5_2).f6)) := hcc15 6 _ rfl; have hf15_0 : w21.frozen? ⟨go15, (x5_2 : Int).toNat * 7, none⟩ = false := hfr15 0; have hf15_1 : w21.frozen? ⟨go15, (x5_2 : Int).toNat * 7 + 1, none⟩ = false := hfr15 1; have hf15_2 : w21.frozen? ⟨go15, (x5_2 : Int).toNat * 7 + 2, none⟩ = false := hfr15 2; have hf15_3 : w21.frozen? ⟨go15, (x5_2 : Int).toNat * 7 + 3, none⟩ = false := hfr15 3; have hf15_4 : w21.frozen? ⟨go15, (x5_2 : Int).toNat * 7 + 4, none⟩ = false := hfr15 4; have hf15_5 : w21.frozen? ⟨go15, (x5_2 : Int).toNat * 7 + 5, none⟩ = false := hfr15 5; have hf15_6 : w21.frozen? ⟨go15, (x5_2 : Int).toNat * 7 + 6, none⟩ = false := hfr15 6; clear hcl15 hcc15 hfr15 hM15; replace p15 := eq_true p15; replace q15 := eq_true q15; have HX22 := Y0.mk (show Kd.R k28 28 w21 w.heap.size (fun k_ => k_ ≠ g_0) (.slice (some ⟨go15, 0, none⟩) x3_2.length co6) x3_2 from (Kd.rU HO_3.out)); obtain ⟨ce22, hcl22, hM22, hcc22, hfr22⟩ := Kd.R_elem HX22.out z28 (x5_2 : Int) (of_decide_eq_true (by first | (with_reducible assumption) | assumption)) (by have h_ : (x5_2 : Int) < ((x3_2.length : Int) : Int) := of_decide_eq_true (by first | (with_reducible assumption) | assumption); first | exact h_ | (have e_ := (Kd.R_reads' HO_3.out).1; omega) | simpa using h_); obtain rfl := Y1I hM22; have HP22 := Kd.R_seg HX22.out (x5_2 : Int) (of_decide_eq_true (by first | (with_reducible assumption) | assumption)) (by have h_ : (x5_2 : Int) < ((x3_2.length : Int) : Int) := of_decide_eq_true (by first | (with_reducible assumption) | assumption); first | exact h_ | (have e_ := (Kd.R_reads' HO_3.out).1; omega) | simpa using h_) (seg := [.int .i64 ((Yg x3_2 (ji10)).f0), .int .i64 ((Yg x3_2 (ji10)).f1), .int .i64 ((Yg x3_2 (ji10)).f2), .int .i64 ((Yg x3_2 (ji10)).f3), .int .i64 ((Yg x3_2 (ji10)).f4), .int .i64 ((Yg x3_2 (ji10)).f5), .int .i64 ((Yg x3_2 (ji10)).f6)]) (j := 0) hcl22 hcc22 (show 7 ≤ 7 from by decide) (x' := (⟨(Yg x3_2 (ji10)).f0, (Yg x3_2 (ji10)).f1, (Yg x3_2 (ji10)).f2, (Yg x3_2 (ji10)).f3, (Yg x3_2 (ji10)).f4, (Yg x3_2 (ji10)).f5, (Yg x3_2 (ji10)).f6⟩ : S28)) (Y1Y _ _ _ (⟨(Yg x3_2 (ji10)).f0, (Yg x3_2 (ji10)).f1, (Yg x3_2 (ji10)).f2, (Yg x3_2 (ji10)).f3, (Yg x3_2 (ji10)).f4, (Yg x3_2 (ji10)).f5, (Yg x3_2 (ji10)).f6⟩ : S28) ) (fun _ hk => hk); have m_z := hcc22 0 _ rfl; (try simp only [show (k28).sz = 7 from rfl, Nat.mul_one, Nat.add_zero] at m_z); have hf22_0 := hfr22 0; (try simp only [show (k28).sz = 7 from rfl, Nat.mul_one, Nat.add_zero] at hf22_0); have m_y := hcc22 1 _ rfl; (try simp only [show (k28).sz = 7 from rfl, Nat.mul_one, Nat.add_zero] at m_y); have hf22_1 := hfr22 1; (try simp only [show (k28).sz = 7 from rfl, Nat.mul_one, Nat.add_zero] at hf22_1); have m_15 := hcc22 2 _ rfl; (try simp only [show (k28).sz = 7 from rfl, Nat.mul_one, Nat.add_zero] at m_15); have hf22_2 := hfr22 2; (try simp only [show (k28).sz = 7 from rfl, Nat.mul_one, Nat.add_zero] at hf22_2); have m_l := hcc22 3 _ rfl; (try simp only [show (k28).sz = 7 from rfl, Nat.mul_one, Nat.add_zero] at m_l); have hf22_3 := hfr22 3; (try simp only [show (k28).sz = 7 from rfl, Nat.mul_one, Nat.add_zero] at hf22_3); have m_11 := hcc22 4 _ rfl; (try simp only [show (k28).sz = 7 from rfl, Nat.mul_one, Nat.add_zero] at m_11); have hf22_4 := hfr22 4; (try simp only [show (k28).sz = 7 from rfl, Nat.mul_one, Nat.add_zero] at hf22_4); have m_17 := hcc22 5 _ rfl; (try simp only [show (k28).sz = 7 from rfl, Nat.mul_one, Nat.add_zero] at m_17); have hf22_5 := hfr22 5; (try simp only [show (k28).sz = 7 from rfl, Nat.mul_one, Nat.add_zero] at hf22_5); have m_13 := hcc22 6 _ rfl; (try simp only [show (k28).sz = 7 from rfl, Nat.mul_one, Nat.add_zero] at m_13); have hf22_6 := hfr22 6; (try simp only [show (k28).sz = 7 from rfl, Nat.mul_one, Nat.add_zero] at hf22_6); clear hcl22 hcc22 hfr22 hM22) | ((with_reducible refine Y2m (t := 28) (p := 50) rfl ?_); refine Y2e (t := 28) (p := 50) (v := ?vo_w23) (w1 := (((((((w21.setCell ⟨go15, (x5_2 : Int).toNat * 7, none⟩ (.int .i64 ((Yg x3_2 (ji10)).f0))).setCell ⟨go15, (x5_2 : Int).toNat * 7 + 1, none⟩ (.int .i64 ((Yg x3_2 (ji10)).f1))).setCell ⟨go15, (x5_2 : Int).toNat * 7 + 2, none⟩ (.int .i64 ((Yg x3_2 (ji10)).f2))).setCell ⟨go15, (x5_2 : Int).toNat * 7 + 3, none⟩ (.int .i64 ((Yg x3_2 (ji10)).f3))).setCell ⟨go15, (x5_2 : Int).toNat * 7 + 4, none⟩ (.int .i64 ((Yg x3_2 (ji10)).f4))).setCell ⟨go15, (x5_2 : Int).toNat * 7 + 5, none⟩ (.int .i64 ((Yg x3_2 (ji10)).f5))).setCell ⟨go15, (x5_2 : Int).toNat * 7 + 6, none⟩ (.int .i64 ((Yg x3_2 (ji10)).f6)))) ?hg ?ho ?hn ?hr ?_; (case ho => rfl); (case hg => rfl); (case hn => rfl); (case hr => first | (go_simp; done) | (go_simp; rfl)); intro w23 hw; have hg : w21.grownBy w23 (some go15) := (by rw [hw]; exact HP22.2); have hp_ : Kd.R k28 28 w23 w.heap.size (fun k_ => k_ ≠ g_0) (.slice (some ⟨go15, 0, none⟩) x3_2.length co6) y631 := (by rw [hw, Ny631.out]; exact HP22.1); clear HP22; have n0_ := Y0.mk (hp_); have n1_ := Y0.mk (Y1n (bU B_0.out) hg (Kd.R_away HO_3.out (fun _ hk => hk))); have n2_ := Y0.mk ((by rw [hw]; exact Y1j (Y1j (Y1j (Y1j (Y1j (Y1j (Y1j (HB.out) GB15.out) GB15.out) GB15.out) GB15.out) GB15.out) GB15.out) GB15.out : Below w.heap.size w w23)); clear HO_3; clear B_0; clear HB; have HO_3 := n0_; have B_0 := n1_; have HB := n2_; clear n0_ n1_ n2_; clear hg hw hp_; have z_0 := Y1 B_0.out; have f_1 := Y3 B_0.out; have p16 : 0 ≤ ((ji10) : Int) := of_decide_eq_true (by first | (with_reducible assumption) | assumption); have q16 : ((ji10) : Int) < ((x3_2.length : Int) : Int) := of_decide_eq_true (by first | (with_reducible assumption) | assumption); obtain ⟨ce16, hcl16, hM16, hcc16, hfr16⟩ := Kd.R_elem HO_3.out z28 ((ji10) : Int) p16 q16; obtain rfl := Y1I hM16; have m_1h : w23.cell? ⟨go15, ((ji10) : Int).toNat * 7, none⟩ = some (.int .i64 ((Yg y631 (ji10)).f0)) := hcc16 0 _ rfl; have m_1k : w23.cell? ⟨go15, ((ji10) : Int).toNat * 7 + 1, none⟩ = some (.int .i64 ((Yg y631 (ji10)).f1)) := hcc16 1 _ rfl; have m_1o : w23.cell? ⟨go15, ((ji10) : Int).toNat * 7 + 2, none⟩ = some (.int .i64 ((Yg y631 (ji10)).f2)) := hcc16 2 _ rfl; have m_1l : w23.cell? ⟨go15, ((ji10) : Int).toNat * 7 + 3, none⟩ = some (.int .i64 ((Yg y631 (ji10)).f3)) := hcc16 3 _ rfl; have m_1j : w23.cell? ⟨go15, ((ji10) : Int).toNat * 7 + 4, none⟩ = some (.int .i64 ((Yg y631 (ji10)).f4)) := hcc16 4 _ rfl; have m_1i : w23.cell? ⟨go15, ((ji10) : Int).toNat * 7 + 5, none⟩ = some (.int .i64 ((Yg y631 (ji10)).f5)) := hcc16 5 _ rfl; have m_1e : w23.cell? ⟨go15, ((ji10) : Int).toNat * 7 + 6, none⟩ = some (.int .i64 ((Yg y631 (ji10)).f6)) := hcc16 6 _ rfl; have hf16_0 : w23.frozen? ⟨go15, ((ji10) : Int).toNat * 7, none⟩ = false := hfr16 0; have hf16_1 : w23.frozen? ⟨go15, ((ji10) : Int).toNat * 7 + 1, none⟩ = false := hfr16 1; have hf16_2 : w23.frozen? ⟨go15, ((ji10) : Int).toNat * 7 + 2, none⟩ = false := hfr16 2; have hf16_3 : w23.frozen? ⟨go15, ((ji10) : Int).toNat * 7 + 3, none⟩ = false := hfr16 3; have hf16_4 : w23.frozen? ⟨go15, ((ji10) : Int).toNat * 7 + 4, none⟩ = false := hfr16 4; have hf16_5 : w23.frozen? ⟨go15, ((ji10) : Int).toNat * 7 + 5, none⟩ = false := hfr16 5; have hf16_6 : w23.frozen? ⟨go15, ((ji10) : Int).toNat * 7 + 6, none⟩ = false := hfr16 6; clear hcl16 hcc16 hfr16 hM16; replace p16 := eq_true p16; replace q16 := eq_true q16; have HX25 := Y0.mk (show Kd.R k28 28 w23 w.heap.size (fun k_ => k_ ≠ g_0) (.slice (some ⟨go15, 0, none⟩) x3_2.length co6) y631 from (Kd.rU HO_3.out)); obtain ⟨ce25, hcl25, hM25, hcc25, hfr25⟩ := Kd.R_elem HX25.out z28 ((ji10) : Int) (of_decide_eq_true (by first | (with_reducible assumption) | assumption)) (by have h_ : ((ji10) : Int) < ((x3_2.length : Int) : Int) := of_decide_eq_true (by first | (with_reducible assumption) | assumption); first | exact h_ | (have e_ := (Kd.R_reads' HO_3.out).1; omega) | simpa using h_); obtain rfl := Y1I hM25; have HP25 := Kd.R_seg HX25.out ((ji10) : Int) (of_decide_eq_true (by first | (with_reducible assumption) | assumption)) (by have h_ : ((ji10) : Int) < ((x3_2.length : Int) : Int) := of_decide_eq_true (by first | (with_reducible assumption) | assumption); first | exact h_ | (have e_ := (Kd.R_reads' HO_3.out).1; omega) | simpa using h_) (seg := [.int .i64 ((Yg x3_2 x5_2).f0), .int .i64 ((Yg x3_2 x5_2).f1), .int .i64 ((Yg x3_2 x5_2).f2), .int .i64 ((Yg x3_2 x5_2).f3), .int .i64 ((Yg x3_2 x5_2).f4), .int .i64 ((Yg x3_2 x5_2).f5), .int .i64 ((Yg x3_2 x5_2).f6)]) (j := 0) hcl25 hcc25 (show 7 ≤ 7 from by decide) (x' := (⟨(Yg x3_2 x5_2).f0, (Yg x3_2 x5_2).f1, (Yg x3_2 x5_2).f2, (Yg x3_2 x5_2).f3, (Yg x3_2 x5_2).f4, (Yg x3_2 x5_2).f5, (Yg x3_2 x5_2).f6⟩ : S28)) (Y1Y _ _ _ (⟨(Yg x3_2 x5_2).f0, (Yg x3_2 x5_2).f1, (Yg x3_2 x5_2).f2, (Yg x3_2 x5_2).f3, (Yg x3_2 x5_2).f4, (Yg x3_2 x5_2).f5, (Yg x3_2 x5_2).f6⟩ : S28) ) (fun _ hk => hk); have m_1a := hcc25 0 _ rfl; (try simp only [show (k28).sz = 7 from rfl, Nat.mul_one, Nat.add_zero] at m_1a); have hf25_0 := hfr25 0; (try simp only [show (k28).sz = 7 from rfl, Nat.mul_one, Nat.add_zero] at hf25_0); have m_w := hcc25 1 _ rfl; (try simp only [show (k28).sz = 7 from rfl, Nat.mul_one, Nat.add_zero] at m_w); have hf25_1 := hfr25 1; (try simp only [show (k28).sz = 7 from rfl, Nat.mul_one, Nat.add_zero] at hf25_1); have m_10 := hcc25 2 _ rfl; (try simp only [show (k28).sz = 7 from rfl, Nat.mul_one, Nat.add_zero] at m_10); have hf25_2 := hfr25 2; (try simp only [show (k28).sz = 7 from rfl, Nat.mul_one, Nat.add_zero] at hf25_2); have m_p := hcc25 3 _ rfl; (try simp only [show (k28).sz = 7 from rfl, Nat.mul_one, Nat.add_zero] at m_p); have hf25_3 := hfr25 3; (try simp only [show (k28).sz = 7 from rfl, Nat.mul_one, Nat.add_zero] at hf25_3); have m_x := hcc25 4 _ rfl; (try simp only [show (k28).sz = 7 from rfl, Nat.mul_one, Nat.add_zero] at m_x); have hf25_4 := hfr25 4; (try simp only [show (k28).sz = 7 from rfl, Nat.mul_one, Nat.add_zero] at hf25_4); have m_16 := hcc25 5 _ rfl; (try simp only [show (k28).sz = 7 from rfl, Nat.mul_one, Nat.add_zero] at m_16); have hf25_5 := hfr25 5; (try simp only [show (k28).sz = 7 from rfl, Nat.mul_one, Nat.add_zero] at hf25_5); have m_14 := hcc25 6 _ rfl; (try simp only [show (k28).sz = 7 from rfl, Nat.mul_one, Nat.add_zero] at m_14); have hf25_6 := hfr25 6; (try simp only [show (k28).sz = 7 from rfl, Nat.mul_one, Nat.add_zero] at hf25_6); clear hcl25 hcc25 hfr25 hM25) | ((with_reducible refine Y2m (t := 28) (p := 55) rfl ?_); refine Y2e (t := 28) (p := 55) (v := ?vo_w26) (w1 := (((((((w23.setCell ⟨go15, ((ji10) : Int).toNat * 7, none⟩ (.int .i64 ((Yg x3_2 x5_2).f0))).setCell ⟨go15, ((ji10) : Int).toNat * 7 + 1, none⟩ (.int .i64 ((Yg x3_2 x5_2).f1))).setCell ⟨go15, ((ji10) : Int).toNat * 7 + 2, none⟩ (.int .i64 ((Yg x3_2 x5_2).f2))).setCell ⟨go15, ((ji10) : Int).toNat * 7 + 3, none⟩ (.int .i64 ((Yg x3_2 x5_2).f3))).setCell ⟨go15, ((ji10) : Int).toNat * 7 + 4, none⟩ (.int .i64 ((Yg x3_2 x5_2).f4))).setCell ⟨go15, ((ji10) : Int).toNat * 7 + 5, none⟩ (.int .i64 ((Yg x3_2 x5_2).f5))).setCell ⟨go15, ((ji10) : Int).toNat * 7 + 6, none⟩ (.int .i64 ((Yg x3_2 x5_2).f6)))) ?hg ?ho ?hn ?hr ?_; (case ho => rfl); (case hg => rfl); (case hn => rfl); (case hr => first | (go_simp; done) | (go_simp; rfl)); intro w26 hw; have hg : w23.grownBy w26 (some go15) := (by rw [hw]; exact HP25.2); have hp_ : Kd.R k28 28 w26 w.heap.size (fun k_ => k_ ≠ g_0) (.slice (some ⟨go15, 0, none⟩) x3_2.length co6) y632 := (by rw [hw, Ny632.out]; exact HP25.1); clear HP25; have n0_ := Y0.mk (hp_); have n1_ := Y0.mk (Y1n (bU B_0.out) hg (Kd.R_away HO_3.out (fun _ hk => hk))); have n2_ := Y0.mk ((by rw [hw]; exact Y1j (Y1j (Y1j (Y1j (Y1j (Y1j (Y1j (HB.out) GB15.out) GB15.out) GB15.out) GB15.out) GB15.out) GB15.out) GB15.out : Below w.heap.size w w26)); clear HO_3; clear B_0; clear HB; have HO_3 := n0_; have B_0 := n1_; have HB := n2_; clear n0_ n1_ n2_; clear hg hw hp_))
        (try simp only [← hl3_2])
        go_roundg k2
        case measure => have := HK1.out; have := HK2.out; omega
        case rel => exact ⟨(y632), (ji10), (by first | rfl | (simp; done) | (simp only [← hji10] <;> (first | rfl | simp)) | (simp [*]; done)), H', ⟨by have := HK1.out; have := HK2.out; omega⟩, ⟨by (try simp only [hl3_2]); (with_reducible repeat (first | apply Kd.R_alloc | apply Kd.R_drewN | apply Kd.R_drew)); exact Kd.R_mono HO_3.out (fun _ hk => trivial)⟩, ⟨hU HB.out⟩⟩
       ·replace c14 := Bool.eq_false_iff.mpr c14
        subst c14
        have H1 : (Yd.l0 k2 l0 x3_2 (wrap64 (x4_1 + 1))) = some r := by rw [if_neg (show ¬ (false = true) by decide)] at H; exact H
        clear H
        have H := H1
        clear H1
        have H' := Y0.mk H
        clear H
        try go_wp2
        replace HO_3 := Y0.mk (Kd.R_drew HO_3.out)
        replace HB := Y0.mk (Yy HB.out)
        have p625 : 0 ≤ (x5_2 : Int) := of_decide_eq_true (by first | (with_reducible assumption) | assumption)
        have q625 : x5_2 < (x3_2.length : Int) := of_decide_eq_true (by first | (with_reducible assumption) | assumption)
        obtain ⟨d_0, e625, m_4, m_6, m_c, m_3, m_b, m_9, m_8⟩ := Y1C (Kd.R_reads' HO_3.out).2.2 x5_2 p625 q625
        cases e625
        replace p625 := eq_true p625
        replace q625 := eq_true q625
        have p626 : 0 ≤ ((ji10) : Int) := of_decide_eq_true (by first | (with_reducible assumption) | assumption)
        have q626 : (ji10) < (x3_2.length : Int) := of_decide_eq_true (by first | (with_reducible assumption) | assumption)
        obtain ⟨d_1, e626, m_7, m_5, m_d, m_0, m_a, m_2, m_1⟩ := Y1C (Kd.R_reads' HO_3.out).2.2 (ji10) p626 q626
        obtain rfl : d_0 = d_1 := (by injection e626)
        replace p626 := eq_true p626
        replace q626 := eq_true q626
        refine Y1i (n := 14) (S := fun w' => w'.cell? (d_0.add ((x5_2).toNat * 7)) = some (.int .i64 ((Yg x3_2 x5_2).f0)) ∧ w'.cell? ⟨(d_0.add ((x5_2).toNat * 7)).block, (d_0.add ((x5_2).toNat * 7)).off + 1, none⟩ = some (.int .i64 ((Yg x3_2 x5_2).f1)) ∧ w'.cell? ⟨(d_0.add ((x5_2).toNat * 7)).block, (d_0.add ((x5_2).toNat * 7)).off + 2, none⟩ = some (.int .i64 ((Yg x3_2 x5_2).f2)) ∧ w'.cell? ⟨(d_0.add ((x5_2).toNat * 7)).block, (d_0.add ((x5_2).toNat * 7)).off + 3, none⟩ = some (.int .i64 ((Yg x3_2 x5_2).f3)) ∧ w'.cell? ⟨(d_0.add ((x5_2).toNat * 7)).block, (d_0.add ((x5_2).toNat * 7)).off + 4, none⟩ = some (.int .i64 ((Yg x3_2 x5_2).f4)) ∧ w'.cell? ⟨(d_0.add ((x5_2).toNat * 7)).block, (d_0.add ((x5_2).toNat * 7)).off + 5, none⟩ = some (.int .i64 ((Yg x3_2 x5_2).f5)) ∧ w'.cell? ⟨(d_0.add ((x5_2).toNat * 7)).block, (d_0.add ((x5_2).toNat * 7)).off + 6, none⟩ = some (.int .i64 ((Yg x3_2 x5_2).f6)) ∧ w'.cell? (d_0.add (((ji10)).toNat * 7)) = some (.int .i64 ((Yg x3_2 (ji10)).f0)) ∧ w'.cell? ⟨(d_0.add (((ji10)).toNat * 7)).block, (d_0.add (((ji10)).toNat * 7)).off + 1, none⟩ = some (.int .i64 ((Yg x3_2 (ji10)).f1)) ∧ w'.cell? ⟨(d_0.add (((ji10)).toNat * 7)).block, (d_0.add (((ji10)).toNat * 7)).off + 2, none⟩ = some (.int .i64 ((Yg x3_2 (ji10)).f2)) ∧ w'.cell? ⟨(d_0.add (((ji10)).toNat * 7)).block, (d_0.add (((ji10)).toNat * 7)).off + 3, none⟩ = some (.int .i64 ((Yg x3_2 (ji10)).f3)) ∧ w'.cell? ⟨(d_0.add (((ji10)).toNat * 7)).block, (d_0.add (((ji10)).toNat * 7)).off + 4, none⟩ = some (.int .i64 ((Yg x3_2 (ji10)).f4)) ∧ w'.cell? ⟨(d_0.add (((ji10)).toNat * 7)).block, (d_0.add (((ji10)).toNat * 7)).off + 5, none⟩ = some (.int .i64 ((Yg x3_2 (ji10)).f5)) ∧ w'.cell? ⟨(d_0.add (((ji10)).toNat * 7)).block, (d_0.add (((ji10)).toNat * 7)).off + 6, none⟩ = some (.int .i64 ((Yg x3_2 (ji10)).f6))) (ds := []) #[false, false, false, false, false, false, false, false, false, false, false, false, false, false] (by kernel_rfl) rfl rfl ⟨m_4, m_6, m_c, m_3, m_b, m_9, m_8, m_7, m_5, m_d, m_0, m_a, m_2, m_1⟩ (fun hHeld => ?_); refine Y10 Yd.tab7 Yd.bits7 (fun HT_ HW_ => ?_)
        generalize wr.drew = w27 at HO_3 HB m_4 m_6 m_c m_3 m_b m_9 m_8 m_7 m_5 m_d m_0 m_a m_2 m_1 hHeld ⊢
        refine puA 0 23 (bs 14 1) ?_
        refine puA 1 24 (bs 14 3) ?_
        refine puA 2 25 (bs 14 7) ?_
        refine puA 3 26 (bs 14 15) ?_
        refine puA 4 27 (bs 14 31) ?_
        refine puA 5 28 (bs 14 63) ?_
        refine puA 7 30 (bs 14 191) ?_
        refine puA 8 31 (bs 14 447) ?_
        refine puA 9 32 (bs 14 959) ?_
        refine puA 10 33 (bs 14 1983) ?_
        refine tkA 6 29 (bs 14 2047) hHeld ?_
        refine tkA 11 34 (bs 14 4095) hHeld ?_
        refine one_ (i := 12) (N := some 35) (bs 14 8191) rfl rfl (YZ HT_.out (by kernel_rfl)) (by decide) (fun K hK => ?_)
        refine goes_ Try.func106 (by kernel_rfl) rfl #[.agg #[.int .i64 ((Yg x3_2 x5_2).f0), .int .i64 ((Yg x3_2 x5_2).f1), .int .i64 ((Yg x3_2 x5_2).f2), .int .i64 ((Yg x3_2 x5_2).f3), .int .i64 ((Yg x3_2 x5_2).f4), .int .i64 ((Yg x3_2 x5_2).f5), .int .i64 ((Yg x3_2 x5_2).f6)], .agg #[.int .i64 ((Yg x3_2 (ji10)).f0), .int .i64 ((Yg x3_2 (ji10)).f1), .int .i64 ((Yg x3_2 (ji10)).f2), .int .i64 ((Yg x3_2 (ji10)).f3), .int .i64 ((Yg x3_2 (ji10)).f4), .int .i64 ((Yg x3_2 (ji10)).f5), .int .i64 ((Yg x3_2 (ji10)).f6)]] (by rfl) rfl rfl (by (try simp only [List.map_toArray, List.map_cons, List.map_nil]); first | done | (simp only [hji10]; rfl) | rfl | (simp only [List.length_drop, List.length_take]; rfl)) ?_
        with_reducible refine (Y11.calls ((Yg x3_2 x5_2).f0) ((Yg x3_2 x5_2).f1) ((Yg x3_2 x5_2).f2) ((Yg x3_2 x5_2).f3) ((Yg x3_2 x5_2).f4) ((Yg x3_2 x5_2).f5) ((Yg x3_2 x5_2).f6) ((Yg x3_2 (ji10)).f0) ((Yg x3_2 (ji10)).f1) ((Yg x3_2 (ji10)).f2) ((Yg x3_2 (ji10)).f3) ((Yg x3_2 (ji10)).f4) ((Yg x3_2 (ji10)).f5) ((Yg x3_2 (ji10)).f6) false _ A13.out).mono ?_
        rintro e w28 ⟨rfl, hb⟩
        have HS0_ := (hb.cell (World.block_lt_of_cell? _ _ (hHeld.1))).trans (hHeld.1)
        have HS1_ := (hb.cell (World.block_lt_of_cell? _ _ (hHeld.2.1))).trans (hHeld.2.1)
        have HS2_ := (hb.cell (World.block_lt_of_cell? _ _ (hHeld.2.2.1))).trans (hHeld.2.2.1)
        have HS3_ := (hb.cell (World.block_lt_of_cell? _ _ (hHeld.2.2.2.1))).trans (hHeld.2.2.2.1)
        have HS4_ := (hb.cell (World.block_lt_of_cell? _ _ (hHeld.2.2.2.2.1))).trans (hHeld.2.2.2.2.1)
        have HS5_ := (hb.cell (World.block_lt_of_cell? _ _ (hHeld.2.2.2.2.2.1))).trans (hHeld.2.2.2.2.2.1)
        have HS6_ := (hb.cell (World.block_lt_of_cell? _ _ (hHeld.2.2.2.2.2.2.1))).trans (hHeld.2.2.2.2.2.2.1)
        have HS7_ := (hb.cell (World.block_lt_of_cell? _ _ (hHeld.2.2.2.2.2.2.2.1))).trans (hHeld.2.2.2.2.2.2.2.1)
        have HS8_ := (hb.cell (World.block_lt_of_cell? _ _ (hHeld.2.2.2.2.2.2.2.2.1))).trans (hHeld.2.2.2.2.2.2.2.2.1)
        have HS9_ := (hb.cell (World.block_lt_of_cell? _ _ (hHeld.2.2.2.2.2.2.2.2.2.1))).trans (hHeld.2.2.2.2.2.2.2.2.2.1)
        have HS10_ := (hb.cell (World.block_lt_of_cell? _ _ (hHeld.2.2.2.2.2.2.2.2.2.2.1))).trans (hHeld.2.2.2.2.2.2.2.2.2.2.1)
        have HS11_ := (hb.cell (World.block_lt_of_cell? _ _ (hHeld.2.2.2.2.2.2.2.2.2.2.2.1))).trans (hHeld.2.2.2.2.2.2.2.2.2.2.2.1)
        have HS12_ := (hb.cell (World.block_lt_of_cell? _ _ (hHeld.2.2.2.2.2.2.2.2.2.2.2.2.1))).trans (hHeld.2.2.2.2.2.2.2.2.2.2.2.2.1)
        have HS13_ := (hb.cell (World.block_lt_of_cell? _ _ (hHeld.2.2.2.2.2.2.2.2.2.2.2.2.2))).trans (hHeld.2.2.2.2.2.2.2.2.2.2.2.2.2)
        refine ⟨_, rfl, ?_⟩
        replace HO_3 := Y0.mk (Kd.R_below (Kd.rU HO_3.out) hb)
        replace HB := Y0.mk (Y4 (hU HB.out) hb)
        (try clear hb)
        (try clear hb2)
        (try clear hk)
        (try clear hi)
        refine hK.out _ _ ⟨HS0_, HS1_, HS2_, HS3_, HS4_, HS5_, HS6_, HS7_, HS8_, HS9_, HS10_, HS11_, HS12_, HS13_⟩ (fun hHeld => ?_)
        clear hK K
        refine nmA 35 ?_
        refine puA 13 36 (bs 14 16383) ?_
        refine done_ (Y1h HT_.out (by kernel_rfl)) ?_
        try go_wp2
        (try simp only [← hl3_2])
        go_roundg k2
        case measure => have := HK1.out; have := HK2.out; omega
        case rel => exact ⟨(x3_2), (wrap64 (x4_1 + 1)), reS, H', ⟨by have := HK1.out; have := HK2.out; omega⟩, ⟨by (try simp only [hl3_2]); (with_reducible repeat (first | apply Kd.R_alloc | apply Kd.R_drewN | apply Kd.R_drew)); exact HO_3.out⟩, ⟨hU HB.out⟩⟩
      ·rw [if_neg c7] at H
       have c7b0 := decide_eq_false c7
       clear c7
       have H' := Y0.mk H
       clear H
       try go_wp2
       replace HO_3 := Y0.mk (Kd.R_drew HO_3.out)
       replace HB := Y0.mk (Yy HB.out)
       refine Y1i (n := 14) (S := fun w' => True) (ds := []) #[false, false, false, false, false, false, false, false, false, false, false, false, false, false] (by kernel_rfl) rfl rfl trivial (fun hHeld => ?_); refine Y10 Yd.tab7 Yd.bits7 (fun HT_ HW_ => ?_)
       generalize wr.drew = w29 at HO_3 HB hHeld ⊢
       refine puA 0 23 (bs 14 1) ?_
       refine puA 1 24 (bs 14 3) ?_
       refine puA 2 25 (bs 14 7) ?_
       refine skA 3 26 (bs 14 15) ?_
       refine skA 4 27 (bs 14 31) ?_
       refine skA 5 28 (bs 14 63) ?_
       refine skA 6 29 (bs 14 127) ?_
       refine skA 7 30 (bs 14 255) ?_
       refine skA 8 31 (bs 14 511) ?_
       refine skA 9 32 (bs 14 1023) ?_
       refine skA 10 33 (bs 14 2047) ?_
       refine skA 11 34 (bs 14 4095) ?_
       refine skA 12 35 (bs 14 8191) ?_
       refine puA 13 36 (bs 14 16383) ?_
       refine done_ (Y1h HT_.out (by kernel_rfl)) ?_
       try go_wp2
       (try simp only [← hl3_2])
       go_roundg k2
       case measure => have := HK1.out; have := HK2.out; omega
       case rel => exact ⟨(x3_2), (wrap64 (x4_1 + 1)), reS, H', ⟨by have := HK1.out; have := HK2.out; omega⟩, ⟨by (try simp only [hl3_2]); (with_reducible repeat (first | apply Kd.R_alloc | apply Kd.R_drewN | apply Kd.R_drew)); exact HO_3.out⟩, ⟨hU HB.out⟩⟩
   ·rw [if_neg c2] at H
    have c2b0 := decide_eq_false c2
    clear c2
    obtain rfl := Option.some.inj H
    go_wp2
    go_ret
    exact ⟨_, reT, by (with_reducible repeat (first | apply Kd.R_alloc | apply Kd.R_drewN | apply Kd.R_drew)); exact HO_3.out, hU HB.out⟩
end Go.Proofs.Yteopkkoblbmggaa.P
end

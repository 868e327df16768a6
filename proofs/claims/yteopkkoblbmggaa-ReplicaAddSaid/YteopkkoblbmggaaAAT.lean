/- Texts of this claim in one: VP32; no condition. -/
import Derived.Test.YteopkkoblbmggaaAAC
import Derived.Test.YteopkkoblbmggaaAAE
import Derived.Test.YteopkkoblbmggaaAAP
section
namespace Go.Proofs.Yteopkkoblbmggaa.P
open Go.RowKit Go.Proofs.YteopkkoblbmggaaW.PrintWords Go.Proofs.YteopkkoblbmggaaW.PrintLast Go.Proofs.YteopkkoblbmggaaW.PrintMore
attribute [local go_sem] YW YY Y14 Y15 YN YO YX YZ
set_option linter.unusedVariables false
set_option linter.unusedSimpArgs false
def Yh.l0 : Nat → List (S30) → List (S30) → Bool → Int → Int → Int → Int → Int → Int → Bool → Int → Int → Int → Int → Int → Int → Int → Option ((List (S30)))
 | 0, _, _, _, _, _, _, _, _, _, _, _, _, _, _, _, _, _ => none
 | k + 1, x0, x5, x6, x7, x_0, x_1, x_9, x_4, x_a, x_7, x_5, x_3, x_6, x_8, x_2, x_b, x_c => if x7 < (x0.length : Int) then (if x6 = true then (if 0 ≤ x7 then (if x5.length < 1353245080339 then (Yh.l0 k x0 (x5 ++ [(⟨(⟨(Y5 x0 x7).f0.f0, (Y5 x0 x7).f0.f1⟩ : S26), (Y5 x0 x7).f1, (⟨(Y5 x0 x7).f2.f0, (Y5 x0 x7).f2.f1⟩ : S26), (Y5 x0 x7).f3, (⟨(Y5 x0 x7).f4.f0, (Y5 x0 x7).f4.f1, (Y5 x0 x7).f4.f2, (Y5 x0 x7).f4.f3, (Y5 x0 x7).f4.f4, (Y5 x0 x7).f4.f5, (Y5 x0 x7).f4.f6⟩ : S28)⟩ : S30)]) x6 (wrap64 (x7 + 1)) x_0 x_1 x_9 x_4 x_a x_7 x_5 x_3 x_6 x_8 x_2 x_b x_c) else (none)) else (none)) else (if 0 ≤ x7 then ((YE.f x_0 x_1 ((Y5 x0 x7).f0.f0) ((Y5 x0 x7).f0.f1)).bind fun t_0 => (if t_0 = true then (if x5.length < 1353245080339 then ((some (x5 ++ [(⟨(⟨x_0, x_1⟩ : S26), x_9, (⟨x_4, x_a⟩ : S26), x_7, (⟨x_5, x_3, x_6, x_8, x_2, x_b, x_c⟩ : S28)⟩ : S30)] : List (S30))).bind fun y513 => (if y513.length < 1353245080339 then (Yh.l0 k x0 (y513 ++ [(⟨(⟨(Y5 x0 x7).f0.f0, (Y5 x0 x7).f0.f1⟩ : S26), (Y5 x0 x7).f1, (⟨(Y5 x0 x7).f2.f0, (Y5 x0 x7).f2.f1⟩ : S26), (Y5 x0 x7).f3, (⟨(Y5 x0 x7).f4.f0, (Y5 x0 x7).f4.f1, (Y5 x0 x7).f4.f2, (Y5 x0 x7).f4.f3, (Y5 x0 x7).f4.f4, (Y5 x0 x7).f4.f5, (Y5 x0 x7).f4.f6⟩ : S28)⟩ : S30)]) true (wrap64 (x7 + 1)) x_0 x_1 x_9 x_4 x_a x_7 x_5 x_3 x_6 x_8 x_2 x_b x_c) else (none))) else (none)) else (if x5.length < 1353245080339 then (Yh.l0 k x0 (x5 ++ [(⟨(⟨(Y5 x0 x7).f0.f0, (Y5 x0 x7).f0.f1⟩ : S26), (Y5 x0 x7).f1, (⟨(Y5 x0 x7).f2.f0, (Y5 x0 x7).f2.f1⟩ : S26), (Y5 x0 x7).f3, (⟨(Y5 x0 x7).f4.f0, (Y5 x0 x7).f4.f1, (Y5 x0 x7).f4.f2, (Y5 x0 x7).f4.f3, (Y5 x0 x7).f4.f4, (Y5 x0 x7).f4.f5, (Y5 x0 x7).f4.f6⟩ : S28)⟩ : S30)]) x6 (wrap64 (x7 + 1)) x_0 x_1 x_9 x_4 x_a x_7 x_5 x_3 x_6 x_8 x_2 x_b x_c) else (none)))) else (none))) else (if x6 = true then (some x5) else (if x5.length < 1353245080339 then (some (x5 ++ [(⟨(⟨x_0, x_1⟩ : S26), x_9, (⟨x_4, x_a⟩ : S26), x_7, (⟨x_5, x_3, x_6, x_8, x_2, x_b, x_c⟩ : S28)⟩ : S30)])) else (none)))
def Yh.f (k : Nat) (l0 : List (S30)) (a1_0 : Int) (a1_1 : Int) (a1_2 : Int) (a1_3 : Int) (a1_4 : Int) (a1_5 : Bool) (a1_6 : Int) (a1_7 : Int) (a1_8 : Int) (a1_9 : Int) (a1_10 : Int) (a1_11 : Int) (a1_12 : Int) : Option ((List (S30))) := Yh.l0 k l0 ([] : List (S30)) false 0 a1_0 a1_1 a1_2 a1_3 a1_4 a1_5 a1_6 a1_7 a1_8 a1_9 a1_10 a1_11 a1_12
theorem Yh.mono_l : ∀ k, (∀ y0 y1 y2 y3 y4 y5 y6 y7 y8 y9 y10 y11 y12 y13 y14 y15 y16, LeO (Yh.l0 k y0 y1 y2 y3 y4 y5 y6 y7 y8 y9 y10 y11 y12 y13 y14 y15 y16) (Yh.l0 (k + 1) y0 y1 y2 y3 y4 y5 y6 y7 y8 y9 y10 y11 y12 y13 y14 y15 y16))
 | 0 => fun _ _ _ _ _ _ _ _ _ _ _ _ _ _ _ _ _ r h => by simp [Yh.l0] at h
 | k + 1 => by
  have ih0 := Yh.mono_l k
  ·intro y0 y1 y2 y3 y4 y5 y6 y7 y8 y9 y10 y11 y12 y13 y14 y15 y16
   unfold Yh.l0
   repeat' first
   | (with_reducible exact ih0 _ _ _ _ _ _ _ _ _ _ _ _ _ _ _ _ _)
   | (with_reducible exact LeO.refl _)
   | (with_reducible exact LeO.none _)
   | (with_reducible refine LeO.ite ?_ ?_)
   | (with_reducible refine LeO.bind ?_ (fun _ => ?_))
theorem Yh.mono : ∀ a0 a1 a2 a3 a4 a5 a6 a7 a8 a9 a10 a11 a12 a13 k, LeO (Yh.f k a0 a1 a2 a3 a4 a5 a6 a7 a8 a9 a10 a11 a12 a13) (Yh.f (k + 1) a0 a1 a2 a3 a4 a5 a6 a7 a8 a9 a10 a11 a12 a13) := by
 intro a0 a1 a2 a3 a4 a5 a6 a7 a8 a9 a10 a11 a12 a13 k
 have ih0 := Yh.mono_l k
 unfold Yh.f
 repeat' first
   | (with_reducible exact ih0 _ _ _ _ _ _ _ _ _ _ _ _ _ _ _ _ _)
   | (with_reducible exact LeO.refl _)
   | (with_reducible exact LeO.none _)
   | (with_reducible refine LeO.ite ?_ ?_)
   | (with_reducible refine LeO.bind ?_ (fun _ => ?_))
def Yh.T6 : Bool × List (List Nat × List Nat) := (true, [([], []), ([0], [0]), ([1], [1]), ([2], [2]), ([3, 2], [2, 3]), ([2], [2]), ([2], [2]), ([5, 6, 2], [2, 5, 6]), ([7, 2], [2, 7]), ([8, 2], [2, 8]), ([4, 9, 2, 2], [2, 4, 9]), ([2, 10], [2, 10])])
def Yh.B6 : List Nat := [0, 1, 3, 7, 15, 7, 7, 103, 231, 487, 1023, 2047]
theorem Yh.tab6 : rtab .any (opsOf Try.f65 6) = Yh.T6 := by kernel_rfl
theorem Yh.bits6 : Y1w Yh.T6.2 Yh.B6 = true := by kernel_rfl
set_option maxHeartbeats 8000000 in
set_option maxRecDepth 100000 in
theorem Yh.calls (k : Nat) (A0 : Option Addr) (c0 : Nat) (l0 : List (S30)) (a1_0 : Int) (a1_1 : Int) (a1_2 : Int) (a1_3 : Int) (a1_4 : Int) (a1_5 : Bool) (a1_6 : Int) (a1_7 : Int) (a1_8 : Int) (a1_9 : Int) (a1_10 : Int) (a1_11 : Int) (a1_12 : Int) (r : List (S30)) (w : World) (hr0 : Kd.C k30 w A0 l0.length l0) (hc0 : l0.length ≤ c0) (h : Yh.f k l0 a1_0 a1_1 a1_2 a1_3 a1_4 a1_5 a1_6 a1_7 a1_8 a1_9 a1_10 a1_11 a1_12 = some r) :
  Calls Try.prog 65 #[.slice A0 l0.length c0, .agg #[.int .i64 a1_0, .int .i64 a1_1, .int .i64 a1_2, .int .i64 a1_3, .int .i64 a1_4, .bool a1_5, .int .i64 a1_6, .int .i64 a1_7, .int .i64 a1_8, .int .i64 a1_9, .int .i64 a1_10, .int .i64 a1_11, .int .i64 a1_12]] w fun e w' => ∃ v0_ : Value, e = .returned (v0_) ∧ Kd.R k30 30 w' w.heap.size (fun _ => True) v0_ r ∧ Below w.heap.size w w' := by
 have hu30 := Try.underlying30
 have hu26 := Try.underlying26
 have HR0 := Y0.mk hr0
 have HC0 := Y0.mk hc0
 clear hr0 hc0
 have HB := Y0.mk (Below.refl w.heap.size w)
 have H : (Yh.l0 k l0 ([] : List (S30)) false 0 a1_0 a1_1 a1_2 a1_3 a1_4 a1_5 a1_6 a1_7 a1_8 a1_9 a1_10 a1_11 a1_12) = some r := h
 clear h
 have H' := Y0.mk H
 clear H
 go_enter Try.func65, Try.ntmps65
 go_wp2_with (first | ((with_reducible refine Yf (N := 3) rfl ?_); refine Yi ?hg (N := 3) ?hd (cs := #[.int .i64 a1_0, .int .i64 a1_1, .int .i64 a1_2, .int .i64 a1_3, .int .i64 a1_4, .bool a1_5, .int .i64 a1_6, .int .i64 a1_7, .int .i64 a1_8, .int .i64 a1_9, .int .i64 a1_10, .int .i64 a1_11, .int .i64 a1_12]) (t := 30) ?hr ?_; (case hd => rfl); (case hg => rfl); (case hr => first | (go_simp; done) | (go_simp; rfl)); intro g_0 hg w3 hbox hb; have n0_ := Y0.mk (Y6 (hU HB.out) hb); have n1_ := Y0.mk (hbox); have n2_ := gE hg HB; have n3_ := gE hg HB; clear HB; have HB := n0_; have B_0 := n1_; have W_0 := n2_; have G_0 := n3_; clear n0_ n1_ n2_ n3_; clear hb hbox hg))
 go_loopg [5, 6, 7] k (fun kq v5 v6 v7 w' => ∃ (x5_1 : List (S30)) (x6_1 : Bool) (x7_1 : Int), v6 = .bool x6_1 ∧ v7 = .int .i64 x7_1 ∧ Y0 (Yh.l0 kq l0 x5_1 x6_1 x7_1 a1_0 a1_1 a1_2 a1_3 a1_4 a1_5 a1_6 a1_7 a1_8 a1_9 a1_10 a1_11 a1_12 = some r) ∧ Y0 (kq ≤ k) ∧ Y0 (Kd.R k30 30 w' w.heap.size (fun k_ => k_ ≠ g_0) v5 x5_1) ∧ Y0 (w'.heap[g_0]? = some (.cells #[.int .i64 a1_0, .int .i64 a1_1, .int .i64 a1_2, .int .i64 a1_3, .int .i64 a1_4, .bool a1_5, .int .i64 a1_6, .int .i64 a1_7, .int .i64 a1_8, .int .i64 a1_9, .int .i64 a1_10, .int .i64 a1_11, .int .i64 a1_12] 30 (0, 0))) ∧ Y0 (Below w.heap.size w w'))
 case atStart => exact ⟨(([] : List (S30))), (false), (0), reS, reS, H', ⟨Nat.le_refl _⟩, ⟨by first | exact Kd.R_nil _ _ _ _ _ | exact Kd.N_nil _ _ _ _ _ | exact Kd.V_nil _ _ _ _ _ | exact Kd.Q_nil _ _ _ _ _ | exact Kd.S_nil _ _ _ _ _⟩, ⟨kB B_0⟩, ⟨hU HB.out⟩⟩
 case round =>
  clear H'
  try clear p2
  obtain ⟨x5_1, x6_1, x7_1, rfl, rfl, HA, HK1, HO_5, B_0, HB⟩ := hrel
  cases gk with
  | zero => exact absurd HA.out (by simp [Yh.l0])
  | succ k1 =>
   have H := HA.out
   clear HA
   simp only [Yh.l0] at H
   by_cases c4 : x7_1 < (l0.length : Int)
   ·rw [if_pos c4] at H
    have c4b0 := decide_eq_true c4
    clear c4
    by_cases c5 : x6_1 = true
    ·subst c5
     rw [if_pos rfl] at H
     obtain ⟨c6, H⟩ := iS H
     have c6b0 := decide_eq_true c6
     clear c6
     obtain ⟨c7, H⟩ := iS H
     have LMc7 := Y0.mk c7
     clear c7
     obtain ⟨y508, hy508⟩ : ∃ y_ : List (S30), y_ = (x5_1 ++ [(⟨(⟨(Y5 l0 x7_1).f0.f0, (Y5 l0 x7_1).f0.f1⟩ : S26), (Y5 l0 x7_1).f1, (⟨(Y5 l0 x7_1).f2.f0, (Y5 l0 x7_1).f2.f1⟩ : S26), (Y5 l0 x7_1).f3, (⟨(Y5 l0 x7_1).f4.f0, (Y5 l0 x7_1).f4.f1, (Y5 l0 x7_1).f4.f2, (Y5 l0 x7_1).f4.f3, (Y5 l0 x7_1).f4.f4, (Y5 l0 x7_1).f4.f5, (Y5 l0 x7_1).f4.f6⟩ : S28)⟩ : S30)]) := ⟨_, rfl⟩
     replace H : (Yh.l0 k1 l0 y508 true (wrap64 (x7_1 + 1)) a1_0 a1_1 a1_2 a1_3 a1_4 a1_5 a1_6 a1_7 a1_8 a1_9 a1_10 a1_11 a1_12) = some r := by first | (rw [hy508]; with_reducible exact H) | (have H2_ := (Option.bind_some _ _).symm.trans H; rw [hy508]; with_reducible exact H2_) | (have H2_ := (Option.bind_some _ _).symm.trans H; with_reducible exact H2_) | with_reducible exact H | (rw [hy508]; exact H) | exact H
     have Ny508 := Y0.mk hy508
     clear hy508
     have H' := Y0.mk H
     clear H
     try go_wp2
     replace HO_5 := Y0.mk (Kd.R_drew HO_5.out)
     replace B_0 := Y0.mk (Ya B_0.out)
     replace HB := Y0.mk (YD HB.out)
     refine Y1m (n := 12) (S := fun w' => True) (ds := []) #[false, false, false, false, false, false, false, false, false, false, false, false] (by kernel_rfl) rfl rfl trivial (fun hHeld => ?_); refine Y17 Yh.tab6 Yh.bits6 (fun HT_ HW_ => ?_)
     generalize wr.drew = w8 at HO_5 B_0 HB hHeld ⊢
     refine puA 0 14 (bs 12 1) ?_
     refine puA 1 15 (bs 12 3) ?_
     refine puA 2 16 (bs 12 7) ?_
     refine skA 3 17 (bs 12 15) ?_
     refine skA 4 18 (bs 12 31) ?_
     refine skA 5 19 (bs 12 63) ?_
     refine skA 6 20 (bs 12 127) ?_
     refine skA 7 21 (bs 12 255) ?_
     refine skA 8 22 (bs 12 511) ?_
     refine skA 9 23 (bs 12 1023) ?_
     refine skA 10 24 (bs 12 2047) ?_
     refine puA 11 25 (bs 12 4095) ?_
     refine done_ (Y1n HT_.out (by kernel_rfl)) ?_
     have p507 : 0 ≤ (x7_1 : Int) := of_decide_eq_true (by first | (with_reducible assumption) | assumption)
     have q507 : x7_1 < (l0.length : Int) := of_decide_eq_true (by first | (with_reducible assumption) | assumption)
     obtain ⟨d_3, e507, m_14, m_17, m_o, m_11, m_15, m_z, m_d, m_n, m_k, m_1d, m_u, m_q, m_g⟩ := Y1l HR0.out x7_1 p507 q507
     cases e507
     replace m_14 := hbC HB m_14
     replace m_17 := hbC HB m_17
     replace m_o := hbC HB m_o
     replace m_11 := hbC HB m_11
     replace m_15 := hbC HB m_15
     replace m_z := hbC HB m_z
     replace m_d := hbC HB m_d
     replace m_n := hbC HB m_n
     replace m_k := hbC HB m_k
     replace m_1d := hbC HB m_1d
     replace m_u := hbC HB m_u
     replace m_q := hbC HB m_q
     replace m_g := hbC HB m_g
     replace p507 := eq_true p507
     replace q507 := eq_true q507
     try go_wp2_with (first | ((with_reducible refine Y1i (b := .append) (xs := #[.tmp 30, .tmp 35]) rfl ?_); at_builtin; refine Kd.R_append k30 (w0 := w) w.heap.size rfl (.tmp 30) (.tmp 35) 22 30 (.agg #[(.int .i64 0), (.int .i64 0), (.int .i64 0), (.int .i64 0), (.int .i64 0), (.bool false), (.int .i64 0), (.int .i64 0), (.int .i64 0), (.int .i64 0), (.int .i64 0), (.int .i64 0), (.int .i64 0)]) 104 rfl Try.underlying22 Y20 rfl (by decide) (by omega) u5 x5_1 (⟨(⟨(Y5 l0 x7_1).f0.f0, (Y5 l0 x7_1).f0.f1⟩ : S26), (Y5 l0 x7_1).f1, (⟨(Y5 l0 x7_1).f2.f0, (Y5 l0 x7_1).f2.f1⟩ : S26), (Y5 l0 x7_1).f3, (⟨(Y5 l0 x7_1).f4.f0, (Y5 l0 x7_1).f4.f1, (Y5 l0 x7_1).f4.f2, (Y5 l0 x7_1).f4.f3, (Y5 l0 x7_1).f4.f4, (Y5 l0 x7_1).f4.f5, (Y5 l0 x7_1).f4.f6⟩ : S28)⟩ : S30) [.int .i64 ((Y5 l0 x7_1).f0.f0), .int .i64 ((Y5 l0 x7_1).f0.f1), .int .i64 ((Y5 l0 x7_1).f1), .int .i64 ((Y5 l0 x7_1).f2.f0), .int .i64 ((Y5 l0 x7_1).f2.f1), .bool ((Y5 l0 x7_1).f3), .int .i64 ((Y5 l0 x7_1).f4.f0), .int .i64 ((Y5 l0 x7_1).f4.f1), .int .i64 ((Y5 l0 x7_1).f4.f2), .int .i64 ((Y5 l0 x7_1).f4.f3), .int .i64 ((Y5 l0 x7_1).f4.f4), .int .i64 ((Y5 l0 x7_1).f4.f5), .int .i64 ((Y5 l0 x7_1).f4.f6)] (fun k_ => k_ ≠ g_0) (fun _ => False) rfl rfl ?aP (fun _ hk => hk.elim) ?aF ?aO ?aB ?aS ?aL ?_; (case aP => exact Y1E _ _ _ (⟨(⟨(Y5 l0 x7_1).f0.f0, (Y5 l0 x7_1).f0.f1⟩ : S26), (Y5 l0 x7_1).f1, (⟨(Y5 l0 x7_1).f2.f0, (Y5 l0 x7_1).f2.f1⟩ : S26), (Y5 l0 x7_1).f3, (⟨(Y5 l0 x7_1).f4.f0, (Y5 l0 x7_1).f4.f1, (Y5 l0 x7_1).f4.f2, (Y5 l0 x7_1).f4.f3, (Y5 l0 x7_1).f4.f4, (Y5 l0 x7_1).f4.f5, (Y5 l0 x7_1).f4.f6⟩ : S28)⟩ : S30)); (case aB => exact (hU HB.out)); (case aF => exact (fun k_ hk => Kd.freshB (bU B_0.out) k_ hk)); (case aO => exact (Kd.rU HO_5.out)); (case aS => exact (Yp (hU HB.out))); (case aL => have := LMc7.out; omega); intro v_3 w9 ho hb hg hat; rw [← Ny508.out] at ho; have n0_ := Y0.mk (Y1x (bU B_0.out) hg (Kd.R_away HO_5.out (fun _ hk => hk))); have n1_ := Y0.mk (hb); have n2_ := Y0.mk (ho); clear B_0; clear HB; clear HO_5; have B_0 := n0_; have HB := n1_; have O_1 := n2_; clear n0_ n1_ n2_; clear ho hb hg hat))
     go_roundg k1
     case measure => have := HK1.out; omega
     case rel => exact ⟨(y508), (true), (wrap64 (x7_1 + 1)), reS, reS, H', ⟨by have := HK1.out; omega⟩, ⟨by (with_reducible repeat (first | apply Kd.R_alloc | apply Kd.R_drewN | apply Kd.R_drew)); exact O_1.out⟩, ⟨kB B_0⟩, ⟨hU HB.out⟩⟩
    ·replace c5 := Bool.eq_false_iff.mpr c5
     subst c5
     rw [if_neg (show ¬ (false = true) by decide)] at H
     obtain ⟨c10, H⟩ := iS H
     have c10b0 := decide_eq_true c10
     clear c10
     obtain ⟨t_0, A110, H⟩ := bS H
     try dsimp only at H
     have A11 := Y0.mk A110
     clear A110
     by_cases c12 : t_0 = true
     ·subst c12
      rw [if_pos rfl] at H
      obtain ⟨c13, H⟩ := iS H
      have LMc13 := Y0.mk c13
      clear c13
      obtain ⟨y513, hy513⟩ : ∃ y_ : List (S30), y_ = (x5_1 ++ [(⟨(⟨a1_0, a1_1⟩ : S26), a1_2, (⟨a1_3, a1_4⟩ : S26), a1_5, (⟨a1_6, a1_7, a1_8, a1_9, a1_10, a1_11, a1_12⟩ : S28)⟩ : S30)]) := ⟨_, rfl⟩
      replace H : (if y513.length < 1353245080339 then (Yh.l0 k1 l0 (y513 ++ [(⟨(⟨(Y5 l0 x7_1).f0.f0, (Y5 l0 x7_1).f0.f1⟩ : S26), (Y5 l0 x7_1).f1, (⟨(Y5 l0 x7_1).f2.f0, (Y5 l0 x7_1).f2.f1⟩ : S26), (Y5 l0 x7_1).f3, (⟨(Y5 l0 x7_1).f4.f0, (Y5 l0 x7_1).f4.f1, (Y5 l0 x7_1).f4.f2, (Y5 l0 x7_1).f4.f3, (Y5 l0 x7_1).f4.f4, (Y5 l0 x7_1).f4.f5, (Y5 l0 x7_1).f4.f6⟩ : S28)⟩ : S30)]) true (wrap64 (x7_1 + 1)) a1_0 a1_1 a1_2 a1_3 a1_4 a1_5 a1_6 a1_7 a1_8 a1_9 a1_10 a1_11 a1_12) else (none)) = some r := by first | (rw [hy513]; with_reducible exact H) | (have H2_ := (Option.bind_some _ _).symm.trans H; rw [hy513]; with_reducible exact H2_) | (have H2_ := (Option.bind_some _ _).symm.trans H; with_reducible exact H2_) | with_reducible exact H | (rw [hy513]; exact H) | exact H
      have Ny513 := Y0.mk hy513
      clear hy513
      obtain ⟨c14, H⟩ := iS H
      have LMc14 := Y0.mk c14
      clear c14
      obtain ⟨y517, hy517⟩ : ∃ y_ : List (S30), y_ = (y513 ++ [(⟨(⟨(Y5 l0 x7_1).f0.f0, (Y5 l0 x7_1).f0.f1⟩ : S26), (Y5 l0 x7_1).f1, (⟨(Y5 l0 x7_1).f2.f0, (Y5 l0 x7_1).f2.f1⟩ : S26), (Y5 l0 x7_1).f3, (⟨(Y5 l0 x7_1).f4.f0, (Y5 l0 x7_1).f4.f1, (Y5 l0 x7_1).f4.f2, (Y5 l0 x7_1).f4.f3, (Y5 l0 x7_1).f4.f4, (Y5 l0 x7_1).f4.f5, (Y5 l0 x7_1).f4.f6⟩ : S28)⟩ : S30)]) := ⟨_, rfl⟩
      replace H : (Yh.l0 k1 l0 y517 true (wrap64 (x7_1 + 1)) a1_0 a1_1 a1_2 a1_3 a1_4 a1_5 a1_6 a1_7 a1_8 a1_9 a1_10 a1_11 a1_12) = some r := by first | (rw [hy517]; with_reducible exact H) | (have H2_ := (Option.bind_some _ _).symm.trans H; rw [hy517]; with_reducible exact H2_) | (have H2_ := (Option.bind_some _ _).symm.trans H; with_reducible exact H2_) | with_reducible exact H | (rw [hy517]; exact H) | exact H
      have Ny517 := Y0.mk hy517
      clear hy517
      have H' := Y0.mk H
      clear H
      try go_wp2
      replace HO_5 := Y0.mk (Kd.R_drew HO_5.out)
      replace B_0 := Y0.mk (Ya B_0.out)
      replace HB := Y0.mk (YD HB.out)
      have p511 : 0 ≤ (x7_1 : Int) := of_decide_eq_true (by first | (with_reducible assumption) | assumption)
      have q511 : x7_1 < (l0.length : Int) := of_decide_eq_true (by first | (with_reducible assumption) | assumption)
      obtain ⟨d_0, e511, m_5, m_1, m_3, m_b, m_c, m_8, m_6, m_9, m_a, m_7, m_0, m_2, m_4⟩ := Y1l HR0.out x7_1 p511 q511
      have q_a := m_4
      have q_b := m_2
      have q_3 := m_0
      have q_5 := m_7
      have q_9 := m_a
      have q_0 := m_9
      have q_4 := m_6
      have q_1 := m_8
      have q_7 := m_c
      have q_c := m_b
      have q_2 := m_3
      have q_6 := m_1
      have q_8 := m_5
      cases e511
      replace m_5 := hbC HB m_5
      replace m_1 := hbC HB m_1
      replace m_3 := hbC HB m_3
      replace m_b := hbC HB m_b
      replace m_c := hbC HB m_c
      replace m_8 := hbC HB m_8
      replace m_6 := hbC HB m_6
      replace m_9 := hbC HB m_9
      replace m_a := hbC HB m_a
      replace m_7 := hbC HB m_7
      replace m_0 := hbC HB m_0
      replace m_2 := hbC HB m_2
      replace m_4 := hbC HB m_4
      replace p511 := eq_true p511
      replace q511 := eq_true q511
      refine Y1m (n := 12) (S := fun w' => w'.cell? ⟨g_0, 0, none⟩ = some (.int .i64 a1_0) ∧ w'.cell? ⟨g_0, 1, none⟩ = some (.int .i64 a1_1) ∧ w'.cell? ⟨g_0, 2, none⟩ = some (.int .i64 a1_2) ∧ w'.cell? ⟨g_0, 3, none⟩ = some (.int .i64 a1_3) ∧ w'.cell? ⟨g_0, 4, none⟩ = some (.int .i64 a1_4) ∧ w'.cell? ⟨g_0, 5, none⟩ = some (.bool a1_5) ∧ w'.cell? ⟨g_0, 6, none⟩ = some (.int .i64 a1_6) ∧ w'.cell? ⟨g_0, 7, none⟩ = some (.int .i64 a1_7) ∧ w'.cell? ⟨g_0, 8, none⟩ = some (.int .i64 a1_8) ∧ w'.cell? ⟨g_0, 9, none⟩ = some (.int .i64 a1_9) ∧ w'.cell? ⟨g_0, 10, none⟩ = some (.int .i64 a1_10) ∧ w'.cell? ⟨g_0, 11, none⟩ = some (.int .i64 a1_11) ∧ w'.cell? ⟨g_0, 12, none⟩ = some (.int .i64 a1_12) ∧ w'.cell? (d_0.add ((x7_1).toNat * 13)) = some (.int .i64 ((Y5 l0 x7_1).f0.f0)) ∧ w'.cell? ⟨(d_0.add ((x7_1).toNat * 13)).block, (d_0.add ((x7_1).toNat * 13)).off + 1, none⟩ = some (.int .i64 ((Y5 l0 x7_1).f0.f1)) ∧ w'.cell? ⟨(d_0.add ((x7_1).toNat * 13)).block, (d_0.add ((x7_1).toNat * 13)).off + 2, none⟩ = some (.int .i64 ((Y5 l0 x7_1).f1)) ∧ w'.cell? ⟨(d_0.add ((x7_1).toNat * 13)).block, (d_0.add ((x7_1).toNat * 13)).off + 3, none⟩ = some (.int .i64 ((Y5 l0 x7_1).f2.f0)) ∧ w'.cell? ⟨(d_0.add ((x7_1).toNat * 13)).block, (d_0.add ((x7_1).toNat * 13)).off + 4, none⟩ = some (.int .i64 ((Y5 l0 x7_1).f2.f1)) ∧ w'.cell? ⟨(d_0.add ((x7_1).toNat * 13)).block, (d_0.add ((x7_1).toNat * 13)).off + 5, none⟩ = some (.bool ((Y5 l0 x7_1).f3)) ∧ w'.cell? ⟨(d_0.add ((x7_1).toNat * 13)).block, (d_0.add ((x7_1).toNat * 13)).off + 6, none⟩ = some (.int .i64 ((Y5 l0 x7_1).f4.f0)) ∧ w'.cell? ⟨(d_0.add ((x7_1).toNat * 13)).block, (d_0.add ((x7_1).toNat * 13)).off + 7, none⟩ = some (.int .i64 ((Y5 l0 x7_1).f4.f1)) ∧ w'.cell? ⟨(d_0.add ((x7_1).toNat * 13)).block, (d_0.add ((x7_1).toNat * 13)).off + 8, none⟩ = some (.int .i64 ((Y5 l0 x7_1).f4.f2)) ∧ w'.cell? ⟨(d_0.add ((x7_1).toNat * 13)).block, (d_0.add ((x7_1).toNat * 13)).off + 9, none⟩ = some (.int .i64 ((Y5 l0 x7_1).f4.f3)) ∧ w'.cell? ⟨(d_0.add ((x7_1).toNat * 13)).block, (d_0.add ((x7_1).toNat * 13)).off + 10, none⟩ = some (.int .i64 ((Y5 l0 x7_1).f4.f4)) ∧ w'.cell? ⟨(d_0.add ((x7_1).toNat * 13)).block, (d_0.add ((x7_1).toNat * 13)).off + 11, none⟩ = some (.int .i64 ((Y5 l0 x7_1).f4.f5)) ∧ w'.cell? ⟨(d_0.add ((x7_1).toNat * 13)).block, (d_0.add ((x7_1).toNat * 13)).off + 12, none⟩ = some (.int .i64 ((Y5 l0 x7_1).f4.f6))) (ds := []) #[false, false, false, false, false, false, false, false, false, false, false, false] (by kernel_rfl) rfl rfl ⟨(Y1 B_0.out 0).trans rfl, (Y1 B_0.out 1).trans rfl, (Y1 B_0.out 2).trans rfl, (Y1 B_0.out 3).trans rfl, (Y1 B_0.out 4).trans rfl, (Y1 B_0.out 5).trans rfl, (Y1 B_0.out 6).trans rfl, (Y1 B_0.out 7).trans rfl, (Y1 B_0.out 8).trans rfl, (Y1 B_0.out 9).trans rfl, (Y1 B_0.out 10).trans rfl, (Y1 B_0.out 11).trans rfl, (Y1 B_0.out 12).trans rfl, (hbC HB q_8), (hbC HB q_6), (hbC HB q_2), (hbC HB q_c), (hbC HB q_7), (hbC HB q_1), (hbC HB q_4), (hbC HB q_0), (hbC HB q_9), (hbC HB q_5), (hbC HB q_3), (hbC HB q_b), (hbC HB q_a)⟩ (fun hHeld => ?_); refine Y17 Yh.tab6 Yh.bits6 (fun HT_ HW_ => ?_)
      generalize wr.drew = w15 at HO_5 B_0 HB m_5 m_1 m_0 m_2 m_4 m_3 m_b m_c m_8 m_6 m_9 m_a m_7 hHeld ⊢
      refine puA 0 14 (bs 12 1) ?_
      refine puA 1 15 (bs 12 3) ?_
      refine puA 2 16 (bs 12 7) ?_
      refine puA 3 17 (bs 12 15) ?_
      refine puA 5 19 (bs 12 47) ?_
      refine puA 6 20 (bs 12 111) ?_
      refine puA 7 21 (bs 12 239) ?_
      refine puA 8 22 (bs 12 495) ?_
      refine tkA 4 18 (bs 12 511) hHeld ?_
      refine tkA 9 23 (bs 12 1023) hHeld ?_
      refine one_ (i := 10) (N := some 24) (bs 12 2047) rfl rfl (Y10 HT_.out (by kernel_rfl)) (by decide) (fun K hK => ?_)
      refine goes_ Try.func79 (by kernel_rfl) rfl #[.agg #[.int .i64 a1_0, .int .i64 a1_1], .agg #[.int .i64 ((Y5 l0 x7_1).f0.f0), .int .i64 ((Y5 l0 x7_1).f0.f1)]] (by rfl) rfl rfl (by (try simp only [List.map_toArray, List.map_cons, List.map_nil]); first | done | rfl | (simp only [List.length_drop, List.length_take]; rfl)) ?_
      with_reducible refine (YE.calls a1_0 a1_1 ((Y5 l0 x7_1).f0.f0) ((Y5 l0 x7_1).f0.f1) true _ A11.out).mono ?_
      rintro e w16 ⟨rfl, hb⟩
      refine ⟨_, rfl, ?_⟩
      replace HO_5 := Y0.mk (Kd.R_below (Kd.rU HO_5.out) hb)
      replace B_0 := Y0.mk (Y2 (bU B_0.out) hb)
      replace HB := Y0.mk (Y6 (hU HB.out) hb)
      (try clear hb)
      (try clear hb2)
      (try clear hk)
      (try clear hi)
      refine hK.out _ _ ⟨(Y1 B_0.out 0).trans rfl, (Y1 B_0.out 1).trans rfl, (Y1 B_0.out 2).trans rfl, (Y1 B_0.out 3).trans rfl, (Y1 B_0.out 4).trans rfl, (Y1 B_0.out 5).trans rfl, (Y1 B_0.out 6).trans rfl, (Y1 B_0.out 7).trans rfl, (Y1 B_0.out 8).trans rfl, (Y1 B_0.out 9).trans rfl, (Y1 B_0.out 10).trans rfl, (Y1 B_0.out 11).trans rfl, (Y1 B_0.out 12).trans rfl, (hbC HB q_8), (hbC HB q_6), (hbC HB q_2), (hbC HB q_c), (hbC HB q_7), (hbC HB q_1), (hbC HB q_4), (hbC HB q_0), (hbC HB q_9), (hbC HB q_5), (hbC HB q_3), (hbC HB q_b), (hbC HB q_a)⟩ (fun hHeld => ?_)
      clear hK K
      refine nmA 24 ?_
      refine puA 11 25 (bs 12 4095) ?_
      refine done_ (Y1n HT_.out (by kernel_rfl)) ?_
      have z_1 := Y1 B_0.out
      have f_1 := Y4 B_0.out
      try go_wp2_with (first | ((with_reducible refine Y1i (b := .append) (xs := #[.tmp 26, .tmp 28]) rfl ?_); at_builtin; refine Kd.R_append k30 (w0 := w) w.heap.size rfl (.tmp 26) (.tmp 28) 22 30 (.agg #[(.int .i64 0), (.int .i64 0), (.int .i64 0), (.int .i64 0), (.int .i64 0), (.bool false), (.int .i64 0), (.int .i64 0), (.int .i64 0), (.int .i64 0), (.int .i64 0), (.int .i64 0), (.int .i64 0)]) 104 rfl Try.underlying22 Y20 rfl (by decide) (by omega) u5 x5_1 (⟨(⟨a1_0, a1_1⟩ : S26), a1_2, (⟨a1_3, a1_4⟩ : S26), a1_5, (⟨a1_6, a1_7, a1_8, a1_9, a1_10, a1_11, a1_12⟩ : S28)⟩ : S30) [.int .i64 a1_0, .int .i64 a1_1, .int .i64 a1_2, .int .i64 a1_3, .int .i64 a1_4, .bool a1_5, .int .i64 a1_6, .int .i64 a1_7, .int .i64 a1_8, .int .i64 a1_9, .int .i64 a1_10, .int .i64 a1_11, .int .i64 a1_12] (fun k_ => k_ ≠ g_0) (fun _ => False) rfl rfl ?aP (fun _ hk => hk.elim) ?aF ?aO ?aB ?aS ?aL ?_; (case aP => exact Y1E _ _ _ (⟨(⟨a1_0, a1_1⟩ : S26), a1_2, (⟨a1_3, a1_4⟩ : S26), a1_5, (⟨a1_6, a1_7, a1_8, a1_9, a1_10, a1_11, a1_12⟩ : S28)⟩ : S30)); (case aB => exact (hU HB.out)); (case aF => exact (fun k_ hk => Kd.freshB (bU B_0.out) k_ hk)); (case aO => exact (Kd.rU HO_5.out)); (case aS => exact (Yp (hU HB.out))); (case aL => have := LMc13.out; omega); intro v_0 w18 ho hb hg hat; rw [← Ny513.out] at ho; have n0_ := Y0.mk (Y1x (bU B_0.out) hg (Kd.R_away HO_5.out (fun _ hk => hk))); have n1_ := Y0.mk (hb); have n2_ := Y0.mk (ho); clear B_0; clear HB; clear HO_5; have B_0 := n0_; have HB := n1_; have O_0 := n2_; clear n0_ n1_ n2_; clear ho hb hg hat; have p516 : 0 ≤ (x7_1 : Int) := of_decide_eq_true (by first | (with_reducible assumption) | assumption); have q516 : x7_1 < (l0.length : Int) := of_decide_eq_true (by first | (with_reducible assumption) | assumption); obtain ⟨d_2, e516, m_1c, m_m, m_i, m_l, m_j, m_18, m_e, m_12, m_19, m_t, m_y, m_w, m_r⟩ := Y1l HR0.out x7_1 p516 q516; obtain rfl : d_0 = d_2 := (by injection e516); replace m_1c := hbC HB m_1c; replace m_m := hbC HB m_m; replace m_i := hbC HB m_i; replace m_l := hbC HB m_l; replace m_j := hbC HB m_j; replace m_18 := hbC HB m_18; replace m_e := hbC HB m_e; replace m_12 := hbC HB m_12; replace m_19 := hbC HB m_19; replace m_t := hbC HB m_t; replace m_y := hbC HB m_y; replace m_w := hbC HB m_w; replace m_r := hbC HB m_r; replace p516 := eq_true p516; replace q516 := eq_true q516) | ((with_reducible refine Y1i (b := .append) (xs := #[.tmp 30, .tmp 35]) rfl ?_); at_builtin; refine Kd.R_append k30 (w0 := w) w.heap.size rfl (.tmp 30) (.tmp 35) 22 30 (.agg #[(.int .i64 0), (.int .i64 0), (.int .i64 0), (.int .i64 0), (.int .i64 0), (.bool false), (.int .i64 0), (.int .i64 0), (.int .i64 0), (.int .i64 0), (.int .i64 0), (.int .i64 0), (.int .i64 0)]) 104 rfl Try.underlying22 Y20 rfl (by decide) (by omega) v_0 y513 (⟨(⟨(Y5 l0 x7_1).f0.f0, (Y5 l0 x7_1).f0.f1⟩ : S26), (Y5 l0 x7_1).f1, (⟨(Y5 l0 x7_1).f2.f0, (Y5 l0 x7_1).f2.f1⟩ : S26), (Y5 l0 x7_1).f3, (⟨(Y5 l0 x7_1).f4.f0, (Y5 l0 x7_1).f4.f1, (Y5 l0 x7_1).f4.f2, (Y5 l0 x7_1).f4.f3, (Y5 l0 x7_1).f4.f4, (Y5 l0 x7_1).f4.f5, (Y5 l0 x7_1).f4.f6⟩ : S28)⟩ : S30) [.int .i64 ((Y5 l0 x7_1).f0.f0), .int .i64 ((Y5 l0 x7_1).f0.f1), .int .i64 ((Y5 l0 x7_1).f1), .int .i64 ((Y5 l0 x7_1).f2.f0), .int .i64 ((Y5 l0 x7_1).f2.f1), .bool ((Y5 l0 x7_1).f3), .int .i64 ((Y5 l0 x7_1).f4.f0), .int .i64 ((Y5 l0 x7_1).f4.f1), .int .i64 ((Y5 l0 x7_1).f4.f2), .int .i64 ((Y5 l0 x7_1).f4.f3), .int .i64 ((Y5 l0 x7_1).f4.f4), .int .i64 ((Y5 l0 x7_1).f4.f5), .int .i64 ((Y5 l0 x7_1).f4.f6)] (fun k_ => k_ ≠ g_0) (fun _ => False) rfl rfl ?aP (fun _ hk => hk.elim) ?aF ?aO ?aB ?aS ?aL ?_; (case aP => exact Y1E _ _ _ (⟨(⟨(Y5 l0 x7_1).f0.f0, (Y5 l0 x7_1).f0.f1⟩ : S26), (Y5 l0 x7_1).f1, (⟨(Y5 l0 x7_1).f2.f0, (Y5 l0 x7_1).f2.f1⟩ : S26), (Y5 l0 x7_1).f3, (⟨(Y5 l0 x7_1).f4.f0, (Y5 l0 x7_1).f4.f1, (Y5 l0 x7_1).f4.f2, (Y5 l0 x7_1).f4.f3, (Y5 l0 x7_1).f4.f4, (Y5 l0 x7_1).f4.f5, (Y5 l0 x7_1).f4.f6⟩ : S28)⟩ : S30)); (case aB => exact (hU HB.out)); (case aF => exact (fun k_ hk => Kd.freshB (bU B_0.out) k_ hk)); (case aO => exact (Kd.rU O_0.out)); (case aS => exact (Yp (hU HB.out))); (case aL => have := LMc14.out; omega); intro v_1 w19 ho hb hg hat; rw [← Ny517.out] at ho; have n0_ := Y0.mk (Y1x (bU B_0.out) hg (Kd.R_away O_0.out (fun _ hk => hk))); have n1_ := Y0.mk (hb); have n2_ := Y0.mk (ho); clear B_0; clear HB; clear O_0; have B_0 := n0_; have HB := n1_; have O_4 := n2_; clear n0_ n1_ n2_; clear ho hb hg hat))
      go_roundg k1
      case measure => have := HK1.out; omega
      case rel => exact ⟨(y517), (true), (wrap64 (x7_1 + 1)), reS, reS, H', ⟨by have := HK1.out; omega⟩, ⟨by (with_reducible repeat (first | apply Kd.R_alloc | apply Kd.R_drewN | apply Kd.R_drew)); exact O_4.out⟩, ⟨kB B_0⟩, ⟨hU HB.out⟩⟩
     ·replace c12 := Bool.eq_false_iff.mpr c12
      subst c12
      rw [if_neg (show ¬ (false = true) by decide)] at H
      obtain ⟨c20, H⟩ := iS H
      have LMc20 := Y0.mk c20
      clear c20
      obtain ⟨y521, hy521⟩ : ∃ y_ : List (S30), y_ = (x5_1 ++ [(⟨(⟨(Y5 l0 x7_1).f0.f0, (Y5 l0 x7_1).f0.f1⟩ : S26), (Y5 l0 x7_1).f1, (⟨(Y5 l0 x7_1).f2.f0, (Y5 l0 x7_1).f2.f1⟩ : S26), (Y5 l0 x7_1).f3, (⟨(Y5 l0 x7_1).f4.f0, (Y5 l0 x7_1).f4.f1, (Y5 l0 x7_1).f4.f2, (Y5 l0 x7_1).f4.f3, (Y5 l0 x7_1).f4.f4, (Y5 l0 x7_1).f4.f5, (Y5 l0 x7_1).f4.f6⟩ : S28)⟩ : S30)]) := ⟨_, rfl⟩
      replace H : (Yh.l0 k1 l0 y521 false (wrap64 (x7_1 + 1)) a1_0 a1_1 a1_2 a1_3 a1_4 a1_5 a1_6 a1_7 a1_8 a1_9 a1_10 a1_11 a1_12) = some r := by first | (rw [hy521]; with_reducible exact H) | (have H2_ := (Option.bind_some _ _).symm.trans H; rw [hy521]; with_reducible exact H2_) | (have H2_ := (Option.bind_some _ _).symm.trans H; with_reducible exact H2_) | with_reducible exact H | (rw [hy521]; exact H) | exact H
      have Ny521 := Y0.mk hy521
      clear hy521
      have H' := Y0.mk H
      clear H
      try go_wp2
      replace HO_5 := Y0.mk (Kd.R_drew HO_5.out)
      replace B_0 := Y0.mk (Ya B_0.out)
      replace HB := Y0.mk (YD HB.out)
      have p511 : 0 ≤ (x7_1 : Int) := of_decide_eq_true (by first | (with_reducible assumption) | assumption)
      have q511 : x7_1 < (l0.length : Int) := of_decide_eq_true (by first | (with_reducible assumption) | assumption)
      obtain ⟨d_0, e511, m_5, m_1, m_3, m_b, m_c, m_8, m_6, m_9, m_a, m_7, m_0, m_2, m_4⟩ := Y1l HR0.out x7_1 p511 q511
      have q_a := m_4
      have q_b := m_2
      have q_3 := m_0
      have q_5 := m_7
      have q_9 := m_a
      have q_0 := m_9
      have q_4 := m_6
      have q_1 := m_8
      have q_7 := m_c
      have q_c := m_b
      have q_2 := m_3
      have q_6 := m_1
      have q_8 := m_5
      cases e511
      replace m_5 := hbC HB m_5
      replace m_1 := hbC HB m_1
      replace m_3 := hbC HB m_3
      replace m_b := hbC HB m_b
      replace m_c := hbC HB m_c
      replace m_8 := hbC HB m_8
      replace m_6 := hbC HB m_6
      replace m_9 := hbC HB m_9
      replace m_a := hbC HB m_a
      replace m_7 := hbC HB m_7
      replace m_0 := hbC HB m_0
      replace m_2 := hbC HB m_2
      replace m_4 := hbC HB m_4
      replace p511 := eq_true p511
      replace q511 := eq_true q511
      refine Y1m (n := 12) (S := fun w' => w'.cell? ⟨g_0, 0, none⟩ = some (.int .i64 a1_0) ∧ w'.cell? ⟨g_0, 1, none⟩ = some (.int .i64 a1_1) ∧ w'.cell? ⟨g_0, 2, none⟩ = some (.int .i64 a1_2) ∧ w'.cell? ⟨g_0, 3, none⟩ = some (.int .i64 a1_3) ∧ w'.cell? ⟨g_0, 4, none⟩ = some (.int .i64 a1_4) ∧ w'.cell? ⟨g_0, 5, none⟩ = some (.bool a1_5) ∧ w'.cell? ⟨g_0, 6, none⟩ = some (.int .i64 a1_6) ∧ w'.cell? ⟨g_0, 7, none⟩ = some (.int .i64 a1_7) ∧ w'.cell? ⟨g_0, 8, none⟩ = some (.int .i64 a1_8) ∧ w'.cell? ⟨g_0, 9, none⟩ = some (.int .i64 a1_9) ∧ w'.cell? ⟨g_0, 10, none⟩ = some (.int .i64 a1_10) ∧ w'.cell? ⟨g_0, 11, none⟩ = some (.int .i64 a1_11) ∧ w'.cell? ⟨g_0, 12, none⟩ = some (.int .i64 a1_12) ∧ w'.cell? (d_0.add ((x7_1).toNat * 13)) = some (.int .i64 ((Y5 l0 x7_1).f0.f0)) ∧ w'.cell? ⟨(d_0.add ((x7_1).toNat * 13)).block, (d_0.add ((x7_1).toNat * 13)).off + 1, none⟩ = some (.int .i64 ((Y5 l0 x7_1).f0.f1)) ∧ w'.cell? ⟨(d_0.add ((x7_1).toNat * 13)).block, (d_0.add ((x7_1).toNat * 13)).off + 2, none⟩ = some (.int .i64 ((Y5 l0 x7_1).f1)) ∧ w'.cell? ⟨(d_0.add ((x7_1).toNat * 13)).block, (d_0.add ((x7_1).toNat * 13)).off + 3, none⟩ = some (.int .i64 ((Y5 l0 x7_1).f2.f0)) ∧ w'.cell? ⟨(d_0.add ((x7_1).toNat * 13)).block, (d_0.add ((x7_1).toNat * 13)).off + 4, none⟩ = some (.int .i64 ((Y5 l0 x7_1).f2.f1)) ∧ w'.cell? ⟨(d_0.add ((x7_1).toNat * 13)).block, (d_0.add ((x7_1).toNat * 13)).off + 5, none⟩ = some (.bool ((Y5 l0 x7_1).f3)) ∧ w'.cell? ⟨(d_0.add ((x7_1).toNat * 13)).block, (d_0.add ((x7_1).toNat * 13)).off + 6, none⟩ = some (.int .i64 ((Y5 l0 x7_1).f4.f0)) ∧ w'.cell? ⟨(d_0.add ((x7_1).toNat * 13)).block, (d_0.add ((x7_1).toNat * 13)).off + 7, none⟩ = some (.int .i64 ((Y5 l0 x7_1).f4.f1)) ∧ w'.cell? ⟨(d_0.add ((x7_1).toNat * 13)).block, (d_0.add ((x7_1).toNat * 13)).off + 8, none⟩ = some (.int .i64 ((Y5 l0 x7_1).f4.f2)) ∧ w'.cell? ⟨(d_0.add ((x7_1).toNat * 13)).block, (d_0.add ((x7_1).toNat * 13)).off + 9, none⟩ = some (.int .i64 ((Y5 l0 x7_1).f4.f3)) ∧ w'.cell? ⟨(d_0.add ((x7_1).toNat * 13)).block, (d_0.add ((x7_1).toNat * 13)).off + 10, none⟩ = some (.int .i64 ((Y5 l0 x7_1).f4.f4)) ∧ w'.cell? ⟨(d_0.add ((x7_1).toNat * 13)).block, (d_0.add ((x7_1).toNat * 13)).off + 11, none⟩ = some (.int .i64 ((Y5 l0 x7_1).f4.f5)) ∧ w'.cell? ⟨(d_0.add ((x7_1).toNat * 13)).block, (d_0.add ((x7_1).toNat * 13)).off + 12, none⟩ = some (.int .i64 ((Y5 l0 x7_1).f4.f6))) (ds := []) #[false, false, false, false, false, false, false, false, false, false, false, false] (by kernel_rfl) rfl rfl ⟨(Y1 B_0.out 0).trans rfl, (Y1 B_0.out 1).trans rfl, (Y1 B_0.out 2).trans rfl, (Y1 B_0.out 3).trans rfl, (Y1 B_0.out 4).trans rfl, (Y1 B_0.out 5).trans rfl, (Y1 B_0.out 6).trans rfl, (Y1 B_0.out 7).trans rfl, (Y1 B_0.out 8).trans rfl, (Y1 B_0.out 9).trans rfl, (Y1 B_0.out 10).trans rfl, (Y1 B_0.out 11).trans rfl, (Y1 B_0.out 12).trans rfl, (hbC HB q_8), (hbC HB q_6), (hbC HB q_2), (hbC HB q_c), (hbC HB q_7), (hbC HB q_1), (hbC HB q_4), (hbC HB q_0), (hbC HB q_9), (hbC HB q_5), (hbC HB q_3), (hbC HB q_b), (hbC HB q_a)⟩ (fun hHeld => ?_); refine Y17 Yh.tab6 Yh.bits6 (fun HT_ HW_ => ?_)
      generalize wr.drew = w21 at HO_5 B_0 HB m_5 m_1 m_0 m_2 m_4 m_3 m_b m_c m_8 m_6 m_9 m_a m_7 hHeld ⊢
      refine puA 0 14 (bs 12 1) ?_
      refine puA 1 15 (bs 12 3) ?_
      refine puA 2 16 (bs 12 7) ?_
      refine puA 3 17 (bs 12 15) ?_
      refine puA 5 19 (bs 12 47) ?_
      refine puA 6 20 (bs 12 111) ?_
      refine puA 7 21 (bs 12 239) ?_
      refine puA 8 22 (bs 12 495) ?_
      refine tkA 4 18 (bs 12 511) hHeld ?_
      refine tkA 9 23 (bs 12 1023) hHeld ?_
      refine one_ (i := 10) (N := some 24) (bs 12 2047) rfl rfl (Y10 HT_.out (by kernel_rfl)) (by decide) (fun K hK => ?_)
      refine goes_ Try.func79 (by kernel_rfl) rfl #[.agg #[.int .i64 a1_0, .int .i64 a1_1], .agg #[.int .i64 ((Y5 l0 x7_1).f0.f0), .int .i64 ((Y5 l0 x7_1).f0.f1)]] (by rfl) rfl rfl (by (try simp only [List.map_toArray, List.map_cons, List.map_nil]); first | done | rfl | (simp only [List.length_drop, List.length_take]; rfl)) ?_
      with_reducible refine (YE.calls a1_0 a1_1 ((Y5 l0 x7_1).f0.f0) ((Y5 l0 x7_1).f0.f1) false _ A11.out).mono ?_
      rintro e w22 ⟨rfl, hb⟩
      refine ⟨_, rfl, ?_⟩
      replace HO_5 := Y0.mk (Kd.R_below (Kd.rU HO_5.out) hb)
      replace B_0 := Y0.mk (Y2 (bU B_0.out) hb)
      replace HB := Y0.mk (Y6 (hU HB.out) hb)
      (try clear hb)
      (try clear hb2)
      (try clear hk)
      (try clear hi)
      refine hK.out _ _ ⟨(Y1 B_0.out 0).trans rfl, (Y1 B_0.out 1).trans rfl, (Y1 B_0.out 2).trans rfl, (Y1 B_0.out 3).trans rfl, (Y1 B_0.out 4).trans rfl, (Y1 B_0.out 5).trans rfl, (Y1 B_0.out 6).trans rfl, (Y1 B_0.out 7).trans rfl, (Y1 B_0.out 8).trans rfl, (Y1 B_0.out 9).trans rfl, (Y1 B_0.out 10).trans rfl, (Y1 B_0.out 11).trans rfl, (Y1 B_0.out 12).trans rfl, (hbC HB q_8), (hbC HB q_6), (hbC HB q_2), (hbC HB q_c), (hbC HB q_7), (hbC HB q_1), (hbC HB q_4), (hbC HB q_0), (hbC HB q_9), (hbC HB q_5), (hbC HB q_3), (hbC HB q_b), (hbC HB q_a)⟩ (fun hHeld => ?_)
      clear hK K
      refine nmA 24 ?_
      refine puA 11 25 (bs 12 4095) ?_
      refine done_ (Y1n HT_.out (by kernel_rfl)) ?_
      have p520 : 0 ≤ (x7_1 : Int) := of_decide_eq_true (by first | (with_reducible assumption) | assumption)
      have q520 : x7_1 < (l0.length : Int) := of_decide_eq_true (by first | (with_reducible assumption) | assumption)
      obtain ⟨d_1, e520, m_1f, m_x, m_s, m_1e, m_10, m_1a, m_v, m_13, m_1b, m_h, m_p, m_16, m_f⟩ := Y1l HR0.out x7_1 p520 q520
      obtain rfl : d_0 = d_1 := (by injection e520)
      replace m_1f := hbC HB m_1f
      replace m_x := hbC HB m_x
      replace m_s := hbC HB m_s
      replace m_1e := hbC HB m_1e
      replace m_10 := hbC HB m_10
      replace m_1a := hbC HB m_1a
      replace m_v := hbC HB m_v
      replace m_13 := hbC HB m_13
      replace m_1b := hbC HB m_1b
      replace m_h := hbC HB m_h
      replace m_p := hbC HB m_p
      replace m_16 := hbC HB m_16
      replace m_f := hbC HB m_f
      replace p520 := eq_true p520
      replace q520 := eq_true q520
      try go_wp2_with (first | ((with_reducible refine Y1i (b := .append) (xs := #[.tmp 30, .tmp 35]) rfl ?_); at_builtin; refine Kd.R_append k30 (w0 := w) w.heap.size rfl (.tmp 30) (.tmp 35) 22 30 (.agg #[(.int .i64 0), (.int .i64 0), (.int .i64 0), (.int .i64 0), (.int .i64 0), (.bool false), (.int .i64 0), (.int .i64 0), (.int .i64 0), (.int .i64 0), (.int .i64 0), (.int .i64 0), (.int .i64 0)]) 104 rfl Try.underlying22 Y20 rfl (by decide) (by omega) u5 x5_1 (⟨(⟨(Y5 l0 x7_1).f0.f0, (Y5 l0 x7_1).f0.f1⟩ : S26), (Y5 l0 x7_1).f1, (⟨(Y5 l0 x7_1).f2.f0, (Y5 l0 x7_1).f2.f1⟩ : S26), (Y5 l0 x7_1).f3, (⟨(Y5 l0 x7_1).f4.f0, (Y5 l0 x7_1).f4.f1, (Y5 l0 x7_1).f4.f2, (Y5 l0 x7_1).f4.f3, (Y5 l0 x7_1).f4.f4, (Y5 l0 x7_1).f4.f5, (Y5 l0 x7_1).f4.f6⟩ : S28)⟩ : S30) [.int .i64 ((Y5 l0 x7_1).f0.f0), .int .i64 ((Y5 l0 x7_1).f0.f1), .int .i64 ((Y5 l0 x7_1).f1), .int .i64 ((Y5 l0 x7_1).f2.f0), .int .i64 ((Y5 l0 x7_1).f2.f1), .bool ((Y5 l0 x7_1).f3), .int .i64 ((Y5 l0 x7_1).f4.f0), .int .i64 ((Y5 l0 x7_1).f4.f1), .int .i64 ((Y5 l0 x7_1).f4.f2), .int .i64 ((Y5 l0 x7_1).f4.f3), .int .i64 ((Y5 l0 x7_1).f4.f4), .int .i64 ((Y5 l0 x7_1).f4.f5), .int .i64 ((Y5 l0 x7_1).f4.f6)] (fun k_ => k_ ≠ g_0) (fun _ => False) rfl rfl ?aP (fun _ hk => hk.elim) ?aF ?aO ?aB ?aS ?aL ?_; (case aP => exact Y1E _ _ _ (⟨(⟨(Y5 l0 x7_1).f0.f0, (Y5 l0 x7_1).f0.f1⟩ : S26), (Y5 l0 x7_1).f1, (⟨(Y5 l0 x7_1).f2.f0, (Y5 l0 x7_1).f2.f1⟩ : S26), (Y5 l0 x7_1).f3, (⟨(Y5 l0 x7_1).f4.f0, (Y5 l0 x7_1).f4.f1, (Y5 l0 x7_1).f4.f2, (Y5 l0 x7_1).f4.f3, (Y5 l0 x7_1).f4.f4, (Y5 l0 x7_1).f4.f5, (Y5 l0 x7_1).f4.f6⟩ : S28)⟩ : S30)); (case aB => exact (hU HB.out)); (case aF => exact (fun k_ hk => Kd.freshB (bU B_0.out) k_ hk)); (case aO => exact (Kd.rU HO_5.out)); (case aS => exact (Yp (hU HB.out))); (case aL => have := LMc20.out; omega); intro v_4 w23 ho hb hg hat; rw [← Ny521.out] at ho; have n0_ := Y0.mk (Y1x (bU B_0.out) hg (Kd.R_away HO_5.out (fun _ hk => hk))); have n1_ := Y0.mk (hb); have n2_ := Y0.mk (ho); clear B_0; clear HB; clear HO_5; have B_0 := n0_; have HB := n1_; have O_3 := n2_; clear n0_ n1_ n2_; clear ho hb hg hat))
      go_roundg k1
      case measure => have := HK1.out; omega
      case rel => exact ⟨(y521), (false), (wrap64 (x7_1 + 1)), reS, reS, H', ⟨by have := HK1.out; omega⟩, ⟨by (with_reducible repeat (first | apply Kd.R_alloc | apply Kd.R_drewN | apply Kd.R_drew)); exact O_3.out⟩, ⟨kB B_0⟩, ⟨hU HB.out⟩⟩
   ·rw [if_neg c4] at H
    have c4b0 := decide_eq_false c4
    clear c4
    by_cases c24 : x6_1 = true
    ·subst c24
     have H1 : (some x5_1) = some r := by rw [if_pos rfl] at H; exact H
     clear H
     have H := H1
     clear H1
     obtain rfl := Option.some.inj H
     go_wp2
     go_ret
     exact ⟨_, reT, by (with_reducible repeat (first | apply Kd.R_alloc | apply Kd.R_drewN | apply Kd.R_drew)); exact Kd.R_mono HO_5.out (fun _ hk => trivial), hU HB.out⟩
    ·replace c24 := Bool.eq_false_iff.mpr c24
     subst c24
     rw [if_neg (show ¬ (false = true) by decide)] at H
     by_cases c25 : x5_1.length < 1353245080339
     rotate_left
     ·rw [if_neg c25] at H
      exact absurd H (by simp)
     rw [if_pos c25] at H
     have LMc25 := Y0.mk c25
     clear c25
     obtain ⟨y524, hy524⟩ : ∃ y_ : List (S30), y_ = (x5_1 ++ [(⟨(⟨a1_0, a1_1⟩ : S26), a1_2, (⟨a1_3, a1_4⟩ : S26), a1_5, (⟨a1_6, a1_7, a1_8, a1_9, a1_10, a1_11, a1_12⟩ : S28)⟩ : S30)]) := ⟨_, rfl⟩
     replace H : (some y524) = some r := by first | (rw [hy524]; with_reducible exact H) | (have H2_ := (Option.bind_some _ _).symm.trans H; rw [hy524]; with_reducible exact H2_) | (have H2_ := (Option.bind_some _ _).symm.trans H; with_reducible exact H2_) | with_reducible exact H | (rw [hy524]; exact H) | exact H
     have Ny524 := Y0.mk hy524
     clear hy524
     obtain rfl := Option.some.inj H
     have z_0 := Y1 B_0.out
     have f_0 := Y4 B_0.out
     go_wp2_with (first | ((with_reducible refine Y1i (b := .append) (xs := #[.tmp 39, .tmp 41]) rfl ?_); at_builtin; refine Kd.R_append k30 (w0 := w) w.heap.size rfl (.tmp 39) (.tmp 41) 22 30 (.agg #[(.int .i64 0), (.int .i64 0), (.int .i64 0), (.int .i64 0), (.int .i64 0), (.bool false), (.int .i64 0), (.int .i64 0), (.int .i64 0), (.int .i64 0), (.int .i64 0), (.int .i64 0), (.int .i64 0)]) 104 rfl Try.underlying22 Y20 rfl (by decide) (by omega) u5 x5_1 (⟨(⟨a1_0, a1_1⟩ : S26), a1_2, (⟨a1_3, a1_4⟩ : S26), a1_5, (⟨a1_6, a1_7, a1_8, a1_9, a1_10, a1_11, a1_12⟩ : S28)⟩ : S30) [.int .i64 a1_0, .int .i64 a1_1, .int .i64 a1_2, .int .i64 a1_3, .int .i64 a1_4, .bool a1_5, .int .i64 a1_6, .int .i64 a1_7, .int .i64 a1_8, .int .i64 a1_9, .int .i64 a1_10, .int .i64 a1_11, .int .i64 a1_12] (fun k_ => k_ ≠ g_0) (fun _ => False) rfl rfl ?aP (fun _ hk => hk.elim) ?aF ?aO ?aB ?aS ?aL ?_; (case aP => exact Y1E _ _ _ (⟨(⟨a1_0, a1_1⟩ : S26), a1_2, (⟨a1_3, a1_4⟩ : S26), a1_5, (⟨a1_6, a1_7, a1_8, a1_9, a1_10, a1_11, a1_12⟩ : S28)⟩ : S30)); (case aB => exact (hU HB.out)); (case aF => exact (fun k_ hk => Kd.freshB (bU B_0.out) k_ hk)); (case aO => exact (Kd.rU HO_5.out)); (case aS => exact (Yp (hU HB.out))); (case aL => have := LMc25.out; omega); intro v_2 w27 ho hb hg hat; rw [← Ny524.out] at ho; have n0_ := Y0.mk (Y1x (bU B_0.out) hg (Kd.R_away HO_5.out (fun _ hk => hk))); have n1_ := Y0.mk (hb); have n2_ := Y0.mk (ho); clear B_0; clear HB; clear HO_5; have B_0 := n0_; have HB := n1_; have O_2 := n2_; clear n0_ n1_ n2_; clear ho hb hg hat))
     go_ret
     exact ⟨_, reT, by (with_reducible repeat (first | apply Kd.R_alloc | apply Kd.R_drewN | apply Kd.R_drew)); exact Kd.R_mono O_2.out (fun _ hk => trivial), hU HB.out⟩
end Go.Proofs.Yteopkkoblbmggaa.P
end

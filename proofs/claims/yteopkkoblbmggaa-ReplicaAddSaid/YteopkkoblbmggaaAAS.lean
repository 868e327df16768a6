/- Texts of this claim in one: VP30, VP31; no condition. -/
import Derived.Test.YteopkkoblbmggaaAAC
import Derived.Test.YteopkkoblbmggaaAAE
import Derived.Test.YteopkkoblbmggaaAAI
section
namespace Go.Proofs.Yteopkkoblbmggaa.P
open Go.RowKit Go.Proofs.YteopkkoblbmggaaW.PrintWords Go.Proofs.YteopkkoblbmggaaW.PrintLast Go.Proofs.YteopkkoblbmggaaW.PrintMore
attribute [local go_sem] YW YY Y14 Y15 YN YO YX YZ
set_option linter.unusedVariables false
set_option linter.unusedSimpArgs false
attribute [local go_sem high] eqA30
def Yr.l0 : Nat → List (S30) → Int → Int → Int → Int → Int → Int → Bool → Int → Int → Int → Int → Int → Int → Int → Option (Bool)
 | 0, _, _, _, _, _, _, _, _, _, _, _, _, _, _, _ => none
 | k + 1, x0, x5, x_a, x_2, x_7, x_9, x_b, x_4, x_0, x_6, x_3, x_8, x_5, x_1, x_c => if x5 < (x0.length : Int) then (if 0 ≤ x5 then (if ((((Y5 x0 x5).f0.f0) == x_a && (((Y5 x0 x5).f0.f1) == x_2)) && (((Y5 x0 x5).f1) == x_7 && ((((Y5 x0 x5).f2.f0) == x_9 && (((Y5 x0 x5).f2.f1) == x_b)) && (((Y5 x0 x5).f3) == x_4 && ((((Y5 x0 x5).f4.f0) == x_0 && (((Y5 x0 x5).f4.f1) == x_6 && (((Y5 x0 x5).f4.f2) == x_3 && (((Y5 x0 x5).f4.f3) == x_8 && (((Y5 x0 x5).f4.f4) == x_5 && (((Y5 x0 x5).f4.f5) == x_1 && (((Y5 x0 x5).f4.f6) == x_c)))))))))))) = true then (some true) else (Yr.l0 k x0 (wrap64 (x5 + 1)) x_a x_2 x_7 x_9 x_b x_4 x_0 x_6 x_3 x_8 x_5 x_1 x_c)) else (none)) else (some false)
def Yr.f (k : Nat) (l0 : List (S30)) (a1_0 : Int) (a1_1 : Int) (a1_2 : Int) (a1_3 : Int) (a1_4 : Int) (a1_5 : Bool) (a1_6 : Int) (a1_7 : Int) (a1_8 : Int) (a1_9 : Int) (a1_10 : Int) (a1_11 : Int) (a1_12 : Int) : Option (Bool) := Yr.l0 k l0 0 a1_0 a1_1 a1_2 a1_3 a1_4 a1_5 a1_6 a1_7 a1_8 a1_9 a1_10 a1_11 a1_12
theorem Yr.mono_l : ∀ k, (∀ y0 y1 y2 y3 y4 y5 y6 y7 y8 y9 y10 y11 y12 y13 y14, LeO (Yr.l0 k y0 y1 y2 y3 y4 y5 y6 y7 y8 y9 y10 y11 y12 y13 y14) (Yr.l0 (k + 1) y0 y1 y2 y3 y4 y5 y6 y7 y8 y9 y10 y11 y12 y13 y14))
 | 0 => fun _ _ _ _ _ _ _ _ _ _ _ _ _ _ _ r h => by simp [Yr.l0] at h
 | k + 1 => by
  have ih0 := Yr.mono_l k
  ·intro y0 y1 y2 y3 y4 y5 y6 y7 y8 y9 y10 y11 y12 y13 y14
   unfold Yr.l0
   repeat' first
   | (with_reducible exact ih0 _ _ _ _ _ _ _ _ _ _ _ _ _ _ _)
   | (with_reducible exact LeO.refl _)
   | (with_reducible exact LeO.none _)
   | (with_reducible refine LeO.ite ?_ ?_)
   | (with_reducible refine LeO.bind ?_ (fun _ => ?_))
theorem Yr.mono : ∀ a0 a1 a2 a3 a4 a5 a6 a7 a8 a9 a10 a11 a12 a13 k, LeO (Yr.f k a0 a1 a2 a3 a4 a5 a6 a7 a8 a9 a10 a11 a12 a13) (Yr.f (k + 1) a0 a1 a2 a3 a4 a5 a6 a7 a8 a9 a10 a11 a12 a13) := by
 intro a0 a1 a2 a3 a4 a5 a6 a7 a8 a9 a10 a11 a12 a13 k
 have ih0 := Yr.mono_l k
 unfold Yr.f
 repeat' first
   | (with_reducible exact ih0 _ _ _ _ _ _ _ _ _ _ _ _ _ _ _)
   | (with_reducible exact LeO.refl _)
   | (with_reducible exact LeO.none _)
   | (with_reducible refine LeO.ite ?_ ?_)
   | (with_reducible refine LeO.bind ?_ (fun _ => ?_))
set_option maxHeartbeats 8000000 in
set_option maxRecDepth 100000 in
theorem Yr.calls (k : Nat) (A0 : Option Addr) (c0 : Nat) (l0 : List (S30)) (a1_0 : Int) (a1_1 : Int) (a1_2 : Int) (a1_3 : Int) (a1_4 : Int) (a1_5 : Bool) (a1_6 : Int) (a1_7 : Int) (a1_8 : Int) (a1_9 : Int) (a1_10 : Int) (a1_11 : Int) (a1_12 : Int) (r : Bool) (w : World) (hr0 : Kd.C k30 w A0 l0.length l0) (hc0 : l0.length ≤ c0) (h : Yr.f k l0 a1_0 a1_1 a1_2 a1_3 a1_4 a1_5 a1_6 a1_7 a1_8 a1_9 a1_10 a1_11 a1_12 = some r) :
  Calls Try.prog 60 #[.slice A0 l0.length c0, .agg #[.int .i64 a1_0, .int .i64 a1_1, .int .i64 a1_2, .int .i64 a1_3, .int .i64 a1_4, .bool a1_5, .int .i64 a1_6, .int .i64 a1_7, .int .i64 a1_8, .int .i64 a1_9, .int .i64 a1_10, .int .i64 a1_11, .int .i64 a1_12]] w fun e w' => e = .returned (.bool r) ∧ Below w.heap.size w w' := by
 have hu30 := Try.underlying30
 have HR0 := Y0.mk hr0
 have HC0 := Y0.mk hc0
 clear hr0 hc0
 have HB := Y0.mk (Below.refl w.heap.size w)
 have H : (Yr.l0 k l0 0 a1_0 a1_1 a1_2 a1_3 a1_4 a1_5 a1_6 a1_7 a1_8 a1_9 a1_10 a1_11 a1_12) = some r := h
 clear h
 have H' := Y0.mk H
 clear H
 go_enter Try.func60, Try.ntmps60
 go_wp2_with (first | ((with_reducible refine Yf (N := 3) rfl ?_); refine Yi ?hg (N := 3) ?hd (cs := #[.int .i64 a1_0, .int .i64 a1_1, .int .i64 a1_2, .int .i64 a1_3, .int .i64 a1_4, .bool a1_5, .int .i64 a1_6, .int .i64 a1_7, .int .i64 a1_8, .int .i64 a1_9, .int .i64 a1_10, .int .i64 a1_11, .int .i64 a1_12]) (t := 30) ?hr ?_; (case hd => rfl); (case hg => rfl); (case hr => first | (go_simp; done) | (go_simp; rfl)); intro g_0 hg w3 hbox hb; have n0_ := Y0.mk (Y6 (hU HB.out) hb); have n1_ := Y0.mk (hbox); have n2_ := gE hg HB; have n3_ := gE hg HB; clear HB; have HB := n0_; have B_1 := n1_; have W_0 := n2_; have G_0 := n3_; clear n0_ n1_ n2_ n3_; clear hb hbox hg))
 repeat (go_quiet (first | ((with_reducible refine Yf (N := 3) rfl ?_); refine Yi ?hg (N := 3) ?hd (cs := #[.int .i64 a1_0, .int .i64 a1_1, .int .i64 a1_2, .int .i64 a1_3, .int .i64 a1_4, .bool a1_5, .int .i64 a1_6, .int .i64 a1_7, .int .i64 a1_8, .int .i64 a1_9, .int .i64 a1_10, .int .i64 a1_11, .int .i64 a1_12]) (t := 30) ?hr ?_; (case hd => rfl); (case hg => rfl); (case hr => first | (go_simp; done) | (go_simp; rfl)); intro g_0 hg w3 hbox hb; have n0_ := Y0.mk (Y6 (hU HB.out) hb); have n1_ := Y0.mk (hbox); have n2_ := gE hg HB; have n3_ := gE hg HB; clear HB; have HB := n0_; have B_1 := n1_; have W_0 := n2_; have G_0 := n3_; clear n0_ n1_ n2_ n3_; clear hb hbox hg)); try go_wp2_with (first | ((with_reducible refine Yf (N := 3) rfl ?_); refine Yi ?hg (N := 3) ?hd (cs := #[.int .i64 a1_0, .int .i64 a1_1, .int .i64 a1_2, .int .i64 a1_3, .int .i64 a1_4, .bool a1_5, .int .i64 a1_6, .int .i64 a1_7, .int .i64 a1_8, .int .i64 a1_9, .int .i64 a1_10, .int .i64 a1_11, .int .i64 a1_12]) (t := 30) ?hr ?_; (case hd => rfl); (case hg => rfl); (case hr => first | (go_simp; done) | (go_simp; rfl)); intro g_0 hg w3 hbox hb; have n0_ := Y0.mk (Y6 (hU HB.out) hb); have n1_ := Y0.mk (hbox); have n2_ := gE hg HB; have n3_ := gE hg HB; clear HB; have HB := n0_; have B_1 := n1_; have W_0 := n2_; have G_0 := n3_; clear n0_ n1_ n2_ n3_; clear hb hbox hg)))
 go_loopg [5] k (fun kq v5 w' => ∃ (x5_1 : Int), v5 = .int .i64 x5_1 ∧ Y0 (Yr.l0 kq l0 x5_1 a1_0 a1_1 a1_2 a1_3 a1_4 a1_5 a1_6 a1_7 a1_8 a1_9 a1_10 a1_11 a1_12 = some r) ∧ Y0 (kq ≤ k) ∧ Y0 (w'.heap[g_0]? = some (.cells #[.int .i64 a1_0, .int .i64 a1_1, .int .i64 a1_2, .int .i64 a1_3, .int .i64 a1_4, .bool a1_5, .int .i64 a1_6, .int .i64 a1_7, .int .i64 a1_8, .int .i64 a1_9, .int .i64 a1_10, .int .i64 a1_11, .int .i64 a1_12] 30 (0, 0))) ∧ Y0 (Below w.heap.size w w'))
 case atStart => exact ⟨(0), reS, H', ⟨Nat.le_refl _⟩, ⟨kB B_1⟩, ⟨hU HB.out⟩⟩
 case round =>
  clear H'
  try clear p2
  obtain ⟨x5_1, rfl, HA, HK1, B_1, HB⟩ := hrel
  cases gk with
  | zero => exact absurd HA.out (by simp [Yr.l0])
  | succ k1 =>
   have H := HA.out
   clear HA
   simp only [Yr.l0] at H
   by_cases c4 : x5_1 < (l0.length : Int)
   ·rw [if_pos c4] at H
    have c4b0 := decide_eq_true c4
    clear c4
    obtain ⟨c5, H⟩ := iS H
    have c5b0 := decide_eq_true c5
    clear c5
    by_cases c6 : ((((Y5 l0 x5_1).f0.f0) == a1_0 && (((Y5 l0 x5_1).f0.f1) == a1_1)) && (((Y5 l0 x5_1).f1) == a1_2 && ((((Y5 l0 x5_1).f2.f0) == a1_3 && (((Y5 l0 x5_1).f2.f1) == a1_4)) && (((Y5 l0 x5_1).f3) == a1_5 && ((((Y5 l0 x5_1).f4.f0) == a1_6 && (((Y5 l0 x5_1).f4.f1) == a1_7 && (((Y5 l0 x5_1).f4.f2) == a1_8 && (((Y5 l0 x5_1).f4.f3) == a1_9 && (((Y5 l0 x5_1).f4.f4) == a1_10 && (((Y5 l0 x5_1).f4.f5) == a1_11 && (((Y5 l0 x5_1).f4.f6) == a1_12)))))))))))) = true
    ·rw [if_pos c6] at H
     have c6b0 : ((((Y5 l0 x5_1).f0.f0) == a1_0 && (((Y5 l0 x5_1).f0.f1) == a1_1)) && (((Y5 l0 x5_1).f1) == a1_2 && ((((Y5 l0 x5_1).f2.f0) == a1_3 && (((Y5 l0 x5_1).f2.f1) == a1_4)) && (((Y5 l0 x5_1).f3) == a1_5 && ((((Y5 l0 x5_1).f4.f0) == a1_6 && (((Y5 l0 x5_1).f4.f1) == a1_7 && (((Y5 l0 x5_1).f4.f2) == a1_8 && (((Y5 l0 x5_1).f4.f3) == a1_9 && (((Y5 l0 x5_1).f4.f4) == a1_10 && (((Y5 l0 x5_1).f4.f5) == a1_11 && (((Y5 l0 x5_1).f4.f6) == a1_12)))))))))))) = true := c6
     clear c6
     obtain rfl := Option.some.inj H
     have p498 : 0 ≤ (x5_1 : Int) := of_decide_eq_true (by first | (with_reducible assumption) | assumption)
     have q498 : x5_1 < (l0.length : Int) := of_decide_eq_true (by first | (with_reducible assumption) | assumption)
     obtain ⟨d_0, e498, m_4, m_c, m_9, m_a, m_8, m_7, m_1, m_5, m_2, m_6, m_b, m_3, m_0⟩ := Y1l HR0.out x5_1 p498 q498
     cases e498
     replace m_4 := hbC HB m_4
     replace m_c := hbC HB m_c
     replace m_9 := hbC HB m_9
     replace m_a := hbC HB m_a
     replace m_8 := hbC HB m_8
     replace m_7 := hbC HB m_7
     replace m_1 := hbC HB m_1
     replace m_5 := hbC HB m_5
     replace m_2 := hbC HB m_2
     replace m_6 := hbC HB m_6
     replace m_b := hbC HB m_b
     replace m_3 := hbC HB m_3
     replace m_0 := hbC HB m_0
     replace p498 := eq_true p498
     replace q498 := eq_true q498
     have z_2 := Y1 B_1.out
     have f_2 := Y4 B_1.out
     go_wp2
     repeat (go_quiet (fail); try go_wp2)
     go_ret
     exact ⟨reT, hU HB.out⟩
    ·rw [if_neg c6] at H
     have c6b0 : ((((Y5 l0 x5_1).f0.f0) == a1_0 && (((Y5 l0 x5_1).f0.f1) == a1_1)) && (((Y5 l0 x5_1).f1) == a1_2 && ((((Y5 l0 x5_1).f2.f0) == a1_3 && (((Y5 l0 x5_1).f2.f1) == a1_4)) && (((Y5 l0 x5_1).f3) == a1_5 && ((((Y5 l0 x5_1).f4.f0) == a1_6 && (((Y5 l0 x5_1).f4.f1) == a1_7 && (((Y5 l0 x5_1).f4.f2) == a1_8 && (((Y5 l0 x5_1).f4.f3) == a1_9 && (((Y5 l0 x5_1).f4.f4) == a1_10 && (((Y5 l0 x5_1).f4.f5) == a1_11 && (((Y5 l0 x5_1).f4.f6) == a1_12)))))))))))) = false := by simpa using c6
     clear c6
     have H' := Y0.mk H
     clear H
     have p498 : 0 ≤ (x5_1 : Int) := of_decide_eq_true (by first | (with_reducible assumption) | assumption)
     have q498 : x5_1 < (l0.length : Int) := of_decide_eq_true (by first | (with_reducible assumption) | assumption)
     obtain ⟨d_0, e498, m_4, m_c, m_9, m_a, m_8, m_7, m_1, m_5, m_2, m_6, m_b, m_3, m_0⟩ := Y1l HR0.out x5_1 p498 q498
     cases e498
     replace m_4 := hbC HB m_4
     replace m_c := hbC HB m_c
     replace m_9 := hbC HB m_9
     replace m_a := hbC HB m_a
     replace m_8 := hbC HB m_8
     replace m_7 := hbC HB m_7
     replace m_1 := hbC HB m_1
     replace m_5 := hbC HB m_5
     replace m_2 := hbC HB m_2
     replace m_6 := hbC HB m_6
     replace m_b := hbC HB m_b
     replace m_3 := hbC HB m_3
     replace m_0 := hbC HB m_0
     replace p498 := eq_true p498
     replace q498 := eq_true q498
     have z_0 := Y1 B_1.out
     have f_0 := Y4 B_1.out
     go_wp2
     repeat (go_quiet (fail); try go_wp2)
     go_roundg k1
     case measure => have := HK1.out; omega
     case rel => exact ⟨(wrap64 (x5_1 + 1)), reS, H', ⟨by have := HK1.out; omega⟩, ⟨kB B_1⟩, ⟨hU HB.out⟩⟩
   ·rw [if_neg c4] at H
    have c4b0 := decide_eq_false c4
    clear c4
    obtain rfl := Option.some.inj H
    go_wp2
    repeat (go_quiet (fail); try go_wp2)
    go_ret
    exact ⟨reT, hU HB.out⟩
def Y11.f (a0_0 : Int) (l0_1 : List (S30)) : Option (Int × (List (S30))) := if ([] : List (S30)).length + l0_1.length < 1353245080339 then (some (a0_0, (([] : List (S30)) ++ l0_1))) else (none)
set_option maxHeartbeats 8000000 in
set_option maxRecDepth 100000 in
theorem Y11.calls (a0_0 : Int) (A0_1 : Option Addr) (c0_1 : Nat) (l0_1 : List (S30)) (r1 : Int) (r2 : List (S30)) (w : World) (hr0_1 : Kd.C k30 w A0_1 l0_1.length l0_1) (hc0_1 : l0_1.length ≤ c0_1) (h : Y11.f a0_0 l0_1 = some (r1, r2)) :
  Calls Try.prog 61 #[.agg #[.int .i64 a0_0, .slice A0_1 l0_1.length c0_1]] w fun e w' => ∃ v1_ : Value, e = .returned (.agg #[.int .i64 r1, v1_]) ∧ Kd.R k30 30 w' w.heap.size (fun _ => True) v1_ r2 ∧ Below w.heap.size w w' := by
 have hu24 := Try.underlying24
 have HR0_1 := Y0.mk hr0_1
 have HC0_1 := Y0.mk hc0_1
 clear hr0_1 hc0_1
 have HB := Y0.mk (Below.refl w.heap.size w)
 have H : (if ([] : List (S30)).length + l0_1.length < 1353245080339 then (some (a0_0, (([] : List (S30)) ++ l0_1))) else (none)) = some (r1, r2) := h
 clear h
 by_cases c2 : ([] : List (S30)).length + l0_1.length < 1353245080339
 rotate_left
 ·rw [if_neg c2] at H
  exact absurd H (by simp)
 rw [if_pos c2] at H
 have LMc2 := Y0.mk c2
 clear c2
 obtain ⟨y501, hy501⟩ : ∃ y_ : List (S30), y_ = (([] : List (S30)) ++ l0_1) := ⟨_, rfl⟩
 replace H : (some (a0_0, y501)) = some (r1, r2) := by first | (rw [hy501]; with_reducible exact H) | (have H2_ := (Option.bind_some _ _).symm.trans H; rw [hy501]; with_reducible exact H2_) | (have H2_ := (Option.bind_some _ _).symm.trans H; with_reducible exact H2_) | with_reducible exact H | (rw [hy501]; exact H) | exact H
 have Ny501 := Y0.mk hy501
 clear hy501
 simp only [Option.some.injEq, Prod.mk.injEq] at H
 obtain ⟨rfl, rfl⟩ := H
 go_enter Try.func61, Try.ntmps61
 go_wp2_with (first | ((with_reducible refine Yf (N := 1) rfl ?_); refine Yi ?hg (N := 1) ?hd (cs := #[.int .i64 a0_0, .slice A0_1 l0_1.length c0_1]) (t := 24) ?hr ?_; (case hd => rfl); (case hg => rfl); (case hr => first | (go_simp; done) | (go_simp; rfl)); intro g_2 hg w3 hbox hb; have n0_ := Y0.mk (Y6 (hU HB.out) hb); have n1_ := Y0.mk (hbox); have n2_ := gE hg HB; have n3_ := gE hg HB; clear HB; have HB := n0_; have B_0 := n1_; have W_2 := n2_; have G_2 := n3_; clear n0_ n1_ n2_ n3_; clear hb hbox hg) | ((with_reducible refine Yf (N := 2) rfl ?_); refine Yi ?hg (N := 2) ?hd (cs := #[.int .i64 0, .slice none 0 0]) (t := 24) ?hr ?_; (case hd => rfl); (case hg => rfl); (case hr => first | (go_simp; done) | (go_simp; rfl)); intro g_1 hg w4 hbox hb; have n0_ := Y0.mk (Y2 (bU B_0.out) hb); have n1_ := Y0.mk (Y6 (hU HB.out) hb); have n2_ := Y0.mk (hbox); have n3_ := gE hg HB; have n4_ := gE hg HB; have n5_ := gL hg B_0; have n6_ := gG hg B_0; clear B_0; clear HB; have B_0 := n0_; have HB := n1_; have B_2 := n2_; have W_1 := n3_; have G_1 := n4_; have N_0 := n5_; have N_1 := n6_; clear n0_ n1_ n2_ n3_ n4_ n5_ n6_; clear hb hbox hg; have hnb5 := N_0.out; have hnc5 := N_1.out; have z_1 := Y1 B_0.out; have f_1 := Y4 B_0.out) | ((with_reducible refine Y1i (b := .append) (xs := #[.tmp 4, .tmp 6]) rfl ?_); at_builtin; refine Kd.R_append_rows k30 (w0 := w) w.heap.size rfl (.tmp 4) (.tmp 6) 22 30 (.agg #[(.int .i64 0), (.int .i64 0), (.int .i64 0), (.int .i64 0), (.int .i64 0), (.bool false), (.int .i64 0), (.int .i64 0), (.int .i64 0), (.int .i64 0), (.int .i64 0), (.int .i64 0), (.int .i64 0)]) 104 rfl Try.underlying22 Y20 rfl (by decide) (by omega) (.slice none 0 0) ([] : List (S30)) l0_1 _ _ _ (fun _ => True) (fun _ => False) rfl rfl ?aO ?aR (fun _ _ h => h) (fun _ h => h.elim) ?aF ?aB ?aS ?aL ?_; (case aR => repeat (first | exact (Kd.C_below HR0_1.out HB.out) | (with_reducible refine Kd.C_alloc ?_ _) | (with_reducible refine Kd.C_drewN ?_ _) | (with_reducible refine Kd.C_drew ?_))); (case aB => exact (hU HB.out)); (case aF => exact (fun _ _ => trivial)); (case aO => exact ((Kd.R_nil _ _ _ _ (fun _ => True)))); (case aS => exact (Yp (hU HB.out))); (case aL => have := LMc2.out; omega); intro v_0 w7 ho hb hg hat; rw [← Ny501.out] at ho; have n0_ := Y0.mk (Y1x (bU B_0.out) hg (by simp [Value.ownBlock])); have n1_ := Y0.mk (Y1x (bU B_2.out) hg (by simp [Value.ownBlock])); have n2_ := Y0.mk (hb); have n3_ := Y0.mk (ho); clear B_0; clear B_2; clear HB; have B_0 := n0_; have B_2 := n1_; have HB := n2_; have O_0 := n3_; clear n0_ n1_ n2_ n3_; clear ho hb hg hat; have z_0 := Y1 B_0.out; have f_0 := Y4 B_0.out; obtain ⟨Ao9, co9, eo9⟩ := Kd.R_slice O_0.out; subst eo9; have z_3 := Y1 B_2.out; have f_3 := Y4 B_2.out))
 refine bodyPost_ret (results_cell_row rfl _ _ g_1 24 #[.int .i64 a0_0, .slice Ao9 y501.length co9] (0, 0) _ rfl (by (with_reducible repeat (first | refine Yd ?_ _ | refine Ya ?_ | refine Y9 ?_ _)); refine Yw (cs := #[.int .i64 a0_0, .slice none 0 0]) ?_ 1 _ rfl; (with_reducible repeat (first | refine Yd ?_ _ | refine Ya ?_ | refine Y9 ?_ _)); refine Yw (cs := #[.int .i64 0, .slice none 0 0]) ?_ 0 _ rfl; (with_reducible repeat (first | refine Yd ?_ _ | refine Ya ?_ | refine Y9 ?_ _)); exact B_2.out) Try.underlying24 rfl (by kernel_rfl)) rfl ?_
 exact ⟨_, reT, by (with_reducible repeat (first | apply Kd.R_alloc | apply Kd.R_drewN | apply Kd.R_drew)); exact Kd.R_mono (Kd.R_far (p := ⟨g_1, 1, none⟩) (Kd.R_far (p := ⟨g_1, 0, none⟩) (Kd.R_types O_0.out B_2.out (by decide)) (fun _ hk => hk.2) (.int .i64 a0_0)) (fun _ hk => hk.2) (.slice Ao9 y501.length co9)) (fun _ hk => trivial), hU HB.out⟩
end Go.Proofs.Yteopkkoblbmggaa.P
end
section
namespace Go.Proofs.Yteopkkoblbmggaa.P
open Go.RowKit Go.Proofs.YteopkkoblbmggaaW.PrintWords Go.Proofs.YteopkkoblbmggaaW.PrintLast Go.Proofs.YteopkkoblbmggaaW.PrintMore
attribute [local go_sem] YW YY Y14 Y15 YN YO YX YZ
set_option linter.unusedVariables false
set_option linter.unusedSimpArgs false
attribute [local go_sem high] eqA26
def Yn.l0 : Nat → List (S30) → Int → Int → Int → Option (Bool)
 | 0, _, _, _, _ => none
 | k + 1, x0, x5, x_0, x_1 => if x5 < (x0.length : Int) then (if 0 ≤ x5 then (if (((Y5 x0 x5).f0.f0) == x_0 && (((Y5 x0 x5).f0.f1) == x_1)) = true then (some true) else (Yn.l0 k x0 (wrap64 (x5 + 1)) x_0 x_1)) else (none)) else (some false)
def Yn.f (k : Nat) (l0 : List (S30)) (a1_0 : Int) (a1_1 : Int) : Option (Bool) := Yn.l0 k l0 0 a1_0 a1_1
theorem Yn.mono_l : ∀ k, (∀ y0 y1 y2 y3, LeO (Yn.l0 k y0 y1 y2 y3) (Yn.l0 (k + 1) y0 y1 y2 y3))
 | 0 => fun _ _ _ _ r h => by simp [Yn.l0] at h
 | k + 1 => by
  have ih0 := Yn.mono_l k
  ·intro y0 y1 y2 y3
   unfold Yn.l0
   repeat' first
   | (with_reducible exact ih0 _ _ _ _)
   | (with_reducible exact LeO.refl _)
   | (with_reducible exact LeO.none _)
   | (with_reducible refine LeO.ite ?_ ?_)
   | (with_reducible refine LeO.bind ?_ (fun _ => ?_))
theorem Yn.mono : ∀ a0 a1 a2 k, LeO (Yn.f k a0 a1 a2) (Yn.f (k + 1) a0 a1 a2) := by
 intro a0 a1 a2 k
 have ih0 := Yn.mono_l k
 unfold Yn.f
 repeat' first
   | (with_reducible exact ih0 _ _ _ _)
   | (with_reducible exact LeO.refl _)
   | (with_reducible exact LeO.none _)
   | (with_reducible refine LeO.ite ?_ ?_)
   | (with_reducible refine LeO.bind ?_ (fun _ => ?_))
set_option maxHeartbeats 8000000 in
set_option maxRecDepth 100000 in
theorem Yn.calls (k : Nat) (A0 : Option Addr) (c0 : Nat) (l0 : List (S30)) (a1_0 : Int) (a1_1 : Int) (r : Bool) (w : World) (hr0 : Kd.C k30 w A0 l0.length l0) (hc0 : l0.length ≤ c0) (h : Yn.f k l0 a1_0 a1_1 = some r) :
  Calls Try.prog 62 #[.slice A0 l0.length c0, .agg #[.int .i64 a1_0, .int .i64 a1_1]] w fun e w' => e = .returned (.bool r) ∧ Below w.heap.size w w' := by
 have hu26 := Try.underlying26
 have HR0 := Y0.mk hr0
 have HC0 := Y0.mk hc0
 clear hr0 hc0
 have HB := Y0.mk (Below.refl w.heap.size w)
 have H : (Yn.l0 k l0 0 a1_0 a1_1) = some r := h
 clear h
 have H' := Y0.mk H
 clear H
 go_enter Try.func62, Try.ntmps62
 go_wp2_with (first | ((with_reducible refine Yf (N := 3) rfl ?_); refine Yi ?hg (N := 3) ?hd (cs := #[.int .i64 a1_0, .int .i64 a1_1]) (t := 26) ?hr ?_; (case hd => rfl); (case hg => rfl); (case hr => first | (go_simp; done) | (go_simp; rfl)); intro g_0 hg w3 hbox hb; have n0_ := Y0.mk (Y6 (hU HB.out) hb); have n1_ := Y0.mk (hbox); have n2_ := gE hg HB; have n3_ := gE hg HB; clear HB; have HB := n0_; have B_0 := n1_; have W_0 := n2_; have G_0 := n3_; clear n0_ n1_ n2_ n3_; clear hb hbox hg))
 repeat (go_quiet (first | ((with_reducible refine Yf (N := 3) rfl ?_); refine Yi ?hg (N := 3) ?hd (cs := #[.int .i64 a1_0, .int .i64 a1_1]) (t := 26) ?hr ?_; (case hd => rfl); (case hg => rfl); (case hr => first | (go_simp; done) | (go_simp; rfl)); intro g_0 hg w3 hbox hb; have n0_ := Y0.mk (Y6 (hU HB.out) hb); have n1_ := Y0.mk (hbox); have n2_ := gE hg HB; have n3_ := gE hg HB; clear HB; have HB := n0_; have B_0 := n1_; have W_0 := n2_; have G_0 := n3_; clear n0_ n1_ n2_ n3_; clear hb hbox hg)); try go_wp2_with (first | ((with_reducible refine Yf (N := 3) rfl ?_); refine Yi ?hg (N := 3) ?hd (cs := #[.int .i64 a1_0, .int .i64 a1_1]) (t := 26) ?hr ?_; (case hd => rfl); (case hg => rfl); (case hr => first | (go_simp; done) | (go_simp; rfl)); intro g_0 hg w3 hbox hb; have n0_ := Y0.mk (Y6 (hU HB.out) hb); have n1_ := Y0.mk (hbox); have n2_ := gE hg HB; have n3_ := gE hg HB; clear HB; have HB := n0_; have B_0 := n1_; have W_0 := n2_; have G_0 := n3_; clear n0_ n1_ n2_ n3_; clear hb hbox hg)))
 go_loopg [5] k (fun kq v5 w' => ∃ (x5_1 : Int), v5 = .int .i64 x5_1 ∧ Y0 (Yn.l0 kq l0 x5_1 a1_0 a1_1 = some r) ∧ Y0 (kq ≤ k) ∧ Y0 (w'.heap[g_0]? = some (.cells #[.int .i64 a1_0, .int .i64 a1_1] 26 (0, 0))) ∧ Y0 (Below w.heap.size w w'))
 case atStart => exact ⟨(0), reS, H', ⟨Nat.le_refl _⟩, ⟨kB B_0⟩, ⟨hU HB.out⟩⟩
 case round =>
  clear H'
  try clear p2
  obtain ⟨x5_1, rfl, HA, HK1, B_0, HB⟩ := hrel
  cases gk with
  | zero => exact absurd HA.out (by simp [Yn.l0])
  | succ k1 =>
   have H := HA.out
   clear HA
   simp only [Yn.l0] at H
   by_cases c4 : x5_1 < (l0.length : Int)
   ·rw [if_pos c4] at H
    have c4b0 := decide_eq_true c4
    clear c4
    obtain ⟨c5, H⟩ := iS H
    have c5b0 := decide_eq_true c5
    clear c5
    by_cases c6 : (((Y5 l0 x5_1).f0.f0) == a1_0 && (((Y5 l0 x5_1).f0.f1) == a1_1)) = true
    ·rw [if_pos c6] at H
     have c6b0 : (((Y5 l0 x5_1).f0.f0) == a1_0 && (((Y5 l0 x5_1).f0.f1) == a1_1)) = true := c6
     (try (have c6b1 : decide (((Y5 l0 x5_1).f0.f0) = a1_0 && (((Y5 l0 x5_1).f0.f1) == a1_1)) = true := by simpa using c6))
     (try (have c6b2 : (((Y5 l0 x5_1).f0.f0) == a1_0 && (((Y5 l0 x5_1).f0.f1) == a1_1)) = true := by simpa using c6))
     clear c6
     obtain rfl := Option.some.inj H
     have p505 : 0 ≤ (x5_1 : Int) := of_decide_eq_true (by first | (with_reducible assumption) | assumption)
     have q505 : x5_1 < (l0.length : Int) := of_decide_eq_true (by first | (with_reducible assumption) | assumption)
     obtain ⟨d_0, e505, m_5, m_c, m_0, m_4, m_2, m_7, m_1, m_b, m_3, m_6, m_8, m_9, m_a⟩ := Y1l HR0.out x5_1 p505 q505
     cases e505
     replace m_5 := hbC HB m_5
     replace m_c := hbC HB m_c
     replace m_0 := hbC HB m_0
     replace m_4 := hbC HB m_4
     replace m_2 := hbC HB m_2
     replace m_7 := hbC HB m_7
     replace m_1 := hbC HB m_1
     replace m_b := hbC HB m_b
     replace m_3 := hbC HB m_3
     replace m_6 := hbC HB m_6
     replace m_8 := hbC HB m_8
     replace m_9 := hbC HB m_9
     replace m_a := hbC HB m_a
     replace p505 := eq_true p505
     replace q505 := eq_true q505
     have z_1 := Y1 B_0.out
     have f_1 := Y4 B_0.out
     go_wp2
     repeat (go_quiet (fail); try go_wp2)
     go_ret
     exact ⟨reT, hU HB.out⟩
    ·rw [if_neg c6] at H
     have c6b0 : (((Y5 l0 x5_1).f0.f0) == a1_0 && (((Y5 l0 x5_1).f0.f1) == a1_1)) = false := by simpa using c6
     (try (have c6b1 : decide (((Y5 l0 x5_1).f0.f0) = a1_0 && (((Y5 l0 x5_1).f0.f1) == a1_1)) = false := by simpa using c6))
     (try (have c6b2 : (((Y5 l0 x5_1).f0.f0) == a1_0 && (((Y5 l0 x5_1).f0.f1) == a1_1)) = false := by simpa using c6))
     (try (have c6b3 : ¬ (((Y5 l0 x5_1).f0.f0) = a1_0 && (((Y5 l0 x5_1).f0.f1) == a1_1)) := by simpa using c6))
     clear c6
     have H' := Y0.mk H
     clear H
     have p505 : 0 ≤ (x5_1 : Int) := of_decide_eq_true (by first | (with_reducible assumption) | assumption)
     have q505 : x5_1 < (l0.length : Int) := of_decide_eq_true (by first | (with_reducible assumption) | assumption)
     obtain ⟨d_0, e505, m_5, m_c, m_0, m_4, m_2, m_7, m_1, m_b, m_3, m_6, m_8, m_9, m_a⟩ := Y1l HR0.out x5_1 p505 q505
     cases e505
     replace m_5 := hbC HB m_5
     replace m_c := hbC HB m_c
     replace m_0 := hbC HB m_0
     replace m_4 := hbC HB m_4
     replace m_2 := hbC HB m_2
     replace m_7 := hbC HB m_7
     replace m_1 := hbC HB m_1
     replace m_b := hbC HB m_b
     replace m_3 := hbC HB m_3
     replace m_6 := hbC HB m_6
     replace m_8 := hbC HB m_8
     replace m_9 := hbC HB m_9
     replace m_a := hbC HB m_a
     replace p505 := eq_true p505
     replace q505 := eq_true q505
     have z_0 := Y1 B_0.out
     have f_0 := Y4 B_0.out
     go_wp2
     repeat (go_quiet (fail); try go_wp2)
     go_roundg k1
     case measure => have := HK1.out; omega
     case rel => exact ⟨(wrap64 (x5_1 + 1)), reS, H', ⟨by have := HK1.out; omega⟩, ⟨kB B_0⟩, ⟨hU HB.out⟩⟩
   ·rw [if_neg c4] at H
    have c4b0 := decide_eq_false c4
    clear c4
    obtain rfl := Option.some.inj H
    go_wp2
    repeat (go_quiet (fail); try go_wp2)
    go_ret
    exact ⟨reT, hU HB.out⟩
end Go.Proofs.Yteopkkoblbmggaa.P
end

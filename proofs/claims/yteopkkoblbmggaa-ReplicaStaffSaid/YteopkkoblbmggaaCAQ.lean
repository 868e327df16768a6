/- Texts of this claim in one: VP26, VP27, VP28; no condition. -/
import Derived.Test.YteopkkoblbmggaaCAC
import Derived.Test.YteopkkoblbmggaaCAE
import Derived.Test.YteopkkoblbmggaaCAP
section
namespace Go.Proofs.Yteopkkoblbmggaa.P
open Go.RowKit Go.Proofs.YteopkkoblbmggaaW.PrintWords Go.Proofs.YteopkkoblbmggaaW.PrintLast Go.Proofs.YteopkkoblbmggaaW.PrintMore
attribute [local go_sem] YU YW Y14 Y15 YJ YK YV YX
set_option linter.unusedVariables false
set_option linter.unusedSimpArgs false
attribute [local go_sem high] eqA28
mutual
def Yi.j0 : Nat → Bool → Int → Int → Int → Int → Int → Bool → Int → Int → Int → Int → Int → Int → Int → Option (Int)
 | 0, _, _, _, _, _, _, _, _, _, _, _, _, _, _ => none
 | k + 1, x19, x_9, x_a, x_5, x_c, x_b, x_8, x_2, x_1, x_0, x_4, x_3, x_6, x_7 => if x19 = true then (some 43) else (if x_5 < 0 then (Yi.j1 k true x_9 x_a x_5 x_c x_b x_8 x_2 x_1 x_0 x_4 x_3 x_6 x_7) else (Yi.j1 k (decide (x_5 ≥ 12)) x_9 x_a x_5 x_c x_b x_8 x_2 x_1 x_0 x_4 x_3 x_6 x_7))
def Yi.j1 : Nat → Bool → Int → Int → Int → Int → Int → Bool → Int → Int → Int → Int → Int → Int → Int → Option (Int)
 | 0, _, _, _, _, _, _, _, _, _, _, _, _, _, _ => none
 | k + 1, x27, x_9, x_a, x_5, x_c, x_b, x_8, x_2, x_1, x_0, x_4, x_3, x_6, x_7 => if x27 = true then (some 33) else (if x_8 = true then (if (!(x_2 == 0) || (!(x_1 == 0) || (!(x_0 == 0) || (!(x_4 == 0) || (!(x_3 == 0) || (!(x_6 == 0) || (!(x_7 == 0)))))))) = true then (some 2) else (some 0)) else ((Yf.f k x_2 x_1 x_0 x_4 x_3 x_6 x_7).bind fun t_1 => (some t_1)))
end
def Yi.f (k : Nat) (a0_0 : Int) (a0_1 : Int) (a0_2 : Int) (a0_3 : Int) (a0_4 : Int) (a0_5 : Bool) (a0_6 : Int) (a0_7 : Int) (a0_8 : Int) (a0_9 : Int) (a0_10 : Int) (a0_11 : Int) (a0_12 : Int) : Option (Int) := (YD.f a0_0 a0_1).bind fun t_2 => (if t_2 = true then ((YD.f a0_3 a0_4).bind fun t_3 => (if t_3 = true then ((YA.f a0_0 a0_1 a0_3 a0_4).bind fun t_0 => (Yi.j0 k t_0 a0_0 a0_1 a0_2 a0_3 a0_4 a0_5 a0_6 a0_7 a0_8 a0_9 a0_10 a0_11 a0_12)) else (Yi.j0 k true a0_0 a0_1 a0_2 a0_3 a0_4 a0_5 a0_6 a0_7 a0_8 a0_9 a0_10 a0_11 a0_12))) else (Yi.j0 k true a0_0 a0_1 a0_2 a0_3 a0_4 a0_5 a0_6 a0_7 a0_8 a0_9 a0_10 a0_11 a0_12))
theorem Yi.mono_l : ∀ k, (∀ y0 y1 y2 y3 y4 y5 y6 y7 y8 y9 y10 y11 y12 y13, LeO (Yi.j0 k y0 y1 y2 y3 y4 y5 y6 y7 y8 y9 y10 y11 y12 y13) (Yi.j0 (k + 1) y0 y1 y2 y3 y4 y5 y6 y7 y8 y9 y10 y11 y12 y13)) ∧ (∀ y0 y1 y2 y3 y4 y5 y6 y7 y8 y9 y10 y11 y12 y13, LeO (Yi.j1 k y0 y1 y2 y3 y4 y5 y6 y7 y8 y9 y10 y11 y12 y13) (Yi.j1 (k + 1) y0 y1 y2 y3 y4 y5 y6 y7 y8 y9 y10 y11 y12 y13))
 | 0 => ⟨fun _ _ _ _ _ _ _ _ _ _ _ _ _ _ r h => by simp [Yi.j0] at h, fun _ _ _ _ _ _ _ _ _ _ _ _ _ _ r h => by simp [Yi.j1] at h⟩
 | k + 1 => by
  obtain ⟨ih0, ih1⟩ := Yi.mono_l k
  refine ⟨?_, ?_⟩
  ·intro y0 y1 y2 y3 y4 y5 y6 y7 y8 y9 y10 y11 y12 y13
   unfold Yi.j0
   repeat' first
   | (with_reducible exact ih0 _ _ _ _ _ _ _ _ _ _ _ _ _ _)
   | (with_reducible exact ih1 _ _ _ _ _ _ _ _ _ _ _ _ _ _)
   | (with_reducible exact Yf.mono _ _ _ _ _ _ _ _)
   | (with_reducible exact LeO.refl _)
   | (with_reducible exact LeO.none _)
   | (with_reducible refine LeO.ite ?_ ?_)
   | (with_reducible refine LeO.bind ?_ (fun _ => ?_))
  ·intro y0 y1 y2 y3 y4 y5 y6 y7 y8 y9 y10 y11 y12 y13
   unfold Yi.j1
   repeat' first
   | (with_reducible exact ih0 _ _ _ _ _ _ _ _ _ _ _ _ _ _)
   | (with_reducible exact ih1 _ _ _ _ _ _ _ _ _ _ _ _ _ _)
   | (with_reducible exact Yf.mono _ _ _ _ _ _ _ _)
   | (with_reducible exact LeO.refl _)
   | (with_reducible exact LeO.none _)
   | (with_reducible refine LeO.ite ?_ ?_)
   | (with_reducible refine LeO.bind ?_ (fun _ => ?_))
theorem Yi.mono : ∀ a0 a1 a2 a3 a4 a5 a6 a7 a8 a9 a10 a11 a12 k, LeO (Yi.f k a0 a1 a2 a3 a4 a5 a6 a7 a8 a9 a10 a11 a12) (Yi.f (k + 1) a0 a1 a2 a3 a4 a5 a6 a7 a8 a9 a10 a11 a12) := by
 intro a0 a1 a2 a3 a4 a5 a6 a7 a8 a9 a10 a11 a12 k
 obtain ⟨ih0, ih1⟩ := Yi.mono_l k
 unfold Yi.f
 repeat' first
   | (with_reducible exact ih0 _ _ _ _ _ _ _ _ _ _ _ _ _ _)
   | (with_reducible exact ih1 _ _ _ _ _ _ _ _ _ _ _ _ _ _)
   | (with_reducible exact Yf.mono _ _ _ _ _ _ _ _)
   | (with_reducible exact LeO.refl _)
   | (with_reducible exact LeO.none _)
   | (with_reducible refine LeO.ite ?_ ?_)
   | (with_reducible refine LeO.bind ?_ (fun _ => ?_))
set_option maxHeartbeats 8000000 in
set_option maxRecDepth 100000 in
theorem Yi.calls (k : Nat) (a0_0 : Int) (a0_1 : Int) (a0_2 : Int) (a0_3 : Int) (a0_4 : Int) (a0_5 : Bool) (a0_6 : Int) (a0_7 : Int) (a0_8 : Int) (a0_9 : Int) (a0_10 : Int) (a0_11 : Int) (a0_12 : Int) (r : Int) (w : World) (h : Yi.f k a0_0 a0_1 a0_2 a0_3 a0_4 a0_5 a0_6 a0_7 a0_8 a0_9 a0_10 a0_11 a0_12 = some r) :
  Calls Try.prog 59 #[.agg #[.int .i64 a0_0, .int .i64 a0_1, .int .i64 a0_2, .int .i64 a0_3, .int .i64 a0_4, .bool a0_5, .int .i64 a0_6, .int .i64 a0_7, .int .i64 a0_8, .int .i64 a0_9, .int .i64 a0_10, .int .i64 a0_11, .int .i64 a0_12]] w fun e w' => e = .returned (.int .i64 r) ∧ Below w.heap.size w w' := by
 have hu30 := Try.underlying30
 have hu26 := Try.underlying26
 have hu28 := Try.underlying28
 have HB := Y0.mk (Below.refl w.heap.size w)
 have H : ((YD.f a0_0 a0_1).bind fun t_2 => (if t_2 = true then ((YD.f a0_3 a0_4).bind fun t_3 => (if t_3 = true then ((YA.f a0_0 a0_1 a0_3 a0_4).bind fun t_0 => (Yi.j0 k t_0 a0_0 a0_1 a0_2 a0_3 a0_4 a0_5 a0_6 a0_7 a0_8 a0_9 a0_10 a0_11 a0_12)) else (Yi.j0 k true a0_0 a0_1 a0_2 a0_3 a0_4 a0_5 a0_6 a0_7 a0_8 a0_9 a0_10 a0_11 a0_12))) else (Yi.j0 k true a0_0 a0_1 a0_2 a0_3 a0_4 a0_5 a0_6 a0_7 a0_8 a0_9 a0_10 a0_11 a0_12))) = some r := h
 clear h
 have HC2 := Y0.mk H
 clear H
 go_enter Try.func59, Try.ntmps59
 go_upto_region 1 with (first | ((with_reducible refine Yj (N := 1) rfl ?_); refine Yl ?hg (N := 1) ?hd (cs := #[.int .i64 a0_0, .int .i64 a0_1, .int .i64 a0_2, .int .i64 a0_3, .int .i64 a0_4, .bool a0_5, .int .i64 a0_6, .int .i64 a0_7, .int .i64 a0_8, .int .i64 a0_9, .int .i64 a0_10, .int .i64 a0_11, .int .i64 a0_12]) (t := 30) ?hr ?_; (case hd => rfl); (case hg => rfl); (case hr => first | (go_simp; done) | (go_simp; rfl)); intro g_0 hg w3 hbox hb; have n0_ := Y0.mk (Y4 (hU HB.out) hb); have n1_ := Y0.mk (hbox); have n2_ := gE hg HB; have n3_ := gE hg HB; clear HB; have HB := n0_; have B_0 := n1_; have W_0 := n2_; have G_0 := n3_; clear n0_ n1_ n2_ n3_; clear hb hbox hg))
 (try simp only [Act.put, List.setIfInBounds_toArray, List.set_cons_zero, List.set_cons_succ])
 go_cut [19] (fun v19 wc => ∃ (kq : Nat) (x19_1 : Bool), v19 = .bool x19_1 ∧ Y0 (Yi.j0 kq x19_1 a0_0 a0_1 a0_2 a0_3 a0_4 a0_5 a0_6 a0_7 a0_8 a0_9 a0_10 a0_11 a0_12 = some r) ∧ Y0 (kq ≤ k) ∧ Y0 (wc.heap[g_0]? = some (.cells #[.int .i64 a0_0, .int .i64 a0_1, .int .i64 a0_2, .int .i64 a0_3, .int .i64 a0_4, .bool a0_5, .int .i64 a0_6, .int .i64 a0_7, .int .i64 a0_8, .int .i64 a0_9, .int .i64 a0_10, .int .i64 a0_11, .int .i64 a0_12] 30 (0, 0))) ∧ Y0 (Below w.heap.size w wc))
 case first =>
  have H := HC2.out
  clear HC2
  obtain ⟨t_2, A40, H⟩ := bS H
  try dsimp only at H
  have A4 := Y0.mk A40
  clear A40
  by_cases c5 : t_2 = true
  ·subst c5
   rw [if_pos rfl] at H
   obtain ⟨t_3, A60, H⟩ := bS H
   try dsimp only at H
   have A6 := Y0.mk A60
   clear A60
   by_cases c7 : t_3 = true
   ·subst c7
    rw [if_pos rfl] at H
    obtain ⟨t_0, A80, H⟩ := bS H
    replace H : (Yi.j0 k t_0 a0_0 a0_1 a0_2 a0_3 a0_4 a0_5 a0_6 a0_7 a0_8 a0_9 a0_10 a0_11 a0_12) = some r := H
    have A8 := Y0.mk A80
    clear A80
    have H' := Y0.mk H
    clear H
    have z_3 := Y1 B_0.out
    have f_2 := Y3 B_0.out
    go_wp2_with (first | ((with_reducible refine Yh (f := 96) rfl ?_); refine goesA (some 5) Try.func96 #[.agg #[.int .i64 a0_0, .int .i64 a0_1]] ?_; (with_reducible refine (YD.calls a0_0 a0_1 true _ A4.out).mono ?_); rintro e w10 ⟨rfl, hb⟩; refine ⟨_, rfl, ?_⟩; replace B_0 := Y0.mk (Y2 (bU B_0.out) hb); replace HB := Y0.mk (Y4 (hU HB.out) hb); (try clear hb); (try clear hb2); (try clear hk); (try clear hi); have z_5 := Y1 B_0.out; have f_3 := Y3 B_0.out) | (go_at_call 96; (with_reducible refine (YD.calls a0_3 a0_4 true _ A6.out).mono ?_); rintro e w12 ⟨rfl, hb⟩; replace B_0 := Y0.mk (Y2 (bU B_0.out) hb); replace HB := Y0.mk (Y4 (hU HB.out) hb); (try clear hb); (try clear hb2); (try clear hk); (try clear hi); have z_1 := Y1 B_0.out; have f_1 := Y3 B_0.out) | (go_at_call 79; (with_reducible refine (YA.calls a0_0 a0_1 a0_3 a0_4 t_0 _ A8.out).mono ?_); rintro e w14 ⟨rfl, hb⟩; replace B_0 := Y0.mk (Y2 (bU B_0.out) hb); replace HB := Y0.mk (Y4 (hU HB.out) hb); (try clear hb); (try clear hb2); (try clear hk); (try clear hi)))
    go_meet
    case rel => exact ⟨_, (t_0), reS, H', ⟨by first | omega | exact Nat.le_refl _⟩, ⟨kB B_0⟩, ⟨hU HB.out⟩⟩
   ·replace c7 := Bool.eq_false_iff.mpr c7
    subst c7
    have H1 : (Yi.j0 k true a0_0 a0_1 a0_2 a0_3 a0_4 a0_5 a0_6 a0_7 a0_8 a0_9 a0_10 a0_11 a0_12) = some r := by rw [if_neg (show ¬ (false = true) by decide)] at H; exact H
    clear H
    have H := H1
    clear H1
    have H' := Y0.mk H
    clear H
    have z_4 := Y1 B_0.out
    have f_5 := Y3 B_0.out
    go_wp2_with (first | ((with_reducible refine Yh (f := 96) rfl ?_); refine goesA (some 5) Try.func96 #[.agg #[.int .i64 a0_0, .int .i64 a0_1]] ?_; (with_reducible refine (YD.calls a0_0 a0_1 true _ A4.out).mono ?_); rintro e w16 ⟨rfl, hb⟩; refine ⟨_, rfl, ?_⟩; replace B_0 := Y0.mk (Y2 (bU B_0.out) hb); replace HB := Y0.mk (Y4 (hU HB.out) hb); (try clear hb); (try clear hb2); (try clear hk); (try clear hi); have z_0 := Y1 B_0.out; have f_0 := Y3 B_0.out) | (go_at_call 96; (with_reducible refine (YD.calls a0_3 a0_4 false _ A6.out).mono ?_); rintro e w18 ⟨rfl, hb⟩; replace B_0 := Y0.mk (Y2 (bU B_0.out) hb); replace HB := Y0.mk (Y4 (hU HB.out) hb); (try clear hb); (try clear hb2); (try clear hk); (try clear hi)))
    go_meet
    case rel => exact ⟨_, (true), reS, H', ⟨by first | omega | exact Nat.le_refl _⟩, ⟨kB B_0⟩, ⟨hU HB.out⟩⟩
  ·replace c5 := Bool.eq_false_iff.mpr c5
   subst c5
   have H1 : (Yi.j0 k true a0_0 a0_1 a0_2 a0_3 a0_4 a0_5 a0_6 a0_7 a0_8 a0_9 a0_10 a0_11 a0_12) = some r := by rw [if_neg (show ¬ (false = true) by decide)] at H; exact H
   clear H
   have H := H1
   clear H1
   have H' := Y0.mk H
   clear H
   have z_2 := Y1 B_0.out
   have f_4 := Y3 B_0.out
   go_wp2_with (first | ((with_reducible refine Yh (f := 96) rfl ?_); refine goesA (some 5) Try.func96 #[.agg #[.int .i64 a0_0, .int .i64 a0_1]] ?_; (with_reducible refine (YD.calls a0_0 a0_1 false _ A4.out).mono ?_); rintro e w20 ⟨rfl, hb⟩; refine ⟨_, rfl, ?_⟩; replace B_0 := Y0.mk (Y2 (bU B_0.out) hb); replace HB := Y0.mk (Y4 (hU HB.out) hb); (try clear hb); (try clear hb2); (try clear hk); (try clear hi)))
   go_meet
   case rel => exact ⟨_, (true), reS, H', ⟨by first | omega | exact Nat.le_refl _⟩, ⟨kB B_0⟩, ⟨hU HB.out⟩⟩
 case rest =>
  clear HC2
  try clear p2
  try clear c5
  try clear c7
  try clear c9
  try clear z_5
  try clear z_16
  try clear z_26
  try clear z_c
  try clear z_14
  try clear z_12
  try clear z_1m
  try clear z_27
  try clear z_1s
  try clear z_20
  try clear z_1f
  try clear z_1x
  try clear z_g
  try clear z_1
  try clear z_21
  try clear z_b
  try clear z_h
  try clear z_22
  try clear z_y
  try clear z_r
  try clear z_1k
  try clear z_1c
  try clear z_s
  try clear z_o
  try clear z_1e
  try clear z_18
  try clear z_4
  try clear z_11
  try clear z_25
  try clear z_e
  try clear z_13
  try clear z_n
  try clear z_1t
  try clear z_k
  try clear z_1b
  try clear z_23
  try clear z_1l
  try clear z_u
  try clear z_1a
  try clear z_0
  try clear z_i
  try clear z_1o
  try clear z_7
  try clear z_1i
  try clear z_t
  try clear z_l
  try clear z_j
  try clear z_9
  try clear z_p
  try clear z_1z
  try clear z_8
  try clear z_x
  try clear z_2
  try clear z_q
  try clear z_a
  try clear z_1u
  try clear z_1p
  try clear z_19
  try clear z_15
  try clear z_1g
  try clear z_v
  try clear z_f
  try clear z_1d
  try clear z_17
  try clear z_1w
  try clear z_3
  try clear z_1q
  try clear z_w
  try clear z_1h
  try clear z_m
  try clear z_1j
  try clear z_z
  try clear z_6
  try clear z_1v
  try clear z_24
  try clear z_1r
  try clear z_10
  try clear z_1y
  try clear f_3
  try clear f_1g
  try clear f_10
  try clear f_x
  try clear f_23
  try clear f_1v
  try clear f_1m
  try clear f_17
  try clear f_1w
  try clear f_12
  try clear f_s
  try clear f_1q
  try clear f_1n
  try clear f_1
  try clear f_y
  try clear f_r
  try clear f_21
  try clear f_1l
  try clear f_w
  try clear f_h
  try clear f_1k
  try clear f_1e
  try clear f_c
  try clear f_z
  try clear f_1y
  try clear f_19
  try clear f_5
  try clear f_n
  try clear f_18
  try clear f_g
  try clear f_15
  try clear f_1i
  try clear f_1s
  try clear f_11
  try clear f_j
  try clear f_7
  try clear f_1a
  try clear f_1p
  try clear f_26
  try clear f_0
  try clear f_9
  try clear f_1f
  try clear f_a
  try clear f_1u
  try clear f_1b
  try clear f_1d
  try clear f_1c
  try clear f_m
  try clear f_u
  try clear f_14
  try clear f_24
  try clear f_o
  try clear f_4
  try clear f_6
  try clear f_1r
  try clear f_20
  try clear f_k
  try clear f_1t
  try clear f_1j
  try clear f_v
  try clear f_i
  try clear f_q
  try clear f_16
  try clear f_b
  try clear f_f
  try clear f_2
  try clear f_27
  try clear f_1z
  try clear f_22
  try clear f_1x
  try clear f_25
  try clear f_p
  try clear f_1h
  try clear f_t
  try clear f_d
  try clear f_8
  try clear f_13
  try clear f_l
  obtain ⟨kq, x19_1, rfl, HA, HJ1, B_0, HB⟩ := hcut
  cases kq with
  | zero => exact absurd HA.out (by simp [Yi.j0])
  | succ kj1 =>
   have H := HA.out
   clear HA
   simp only [Yi.j0] at H
   by_cases c21 : x19_1 = true
   ·subst c21
    have H1 : (some 43) = some r := by rw [if_pos rfl] at H; exact H
    clear H
    have H := H1
    clear H1
    obtain rfl := Option.some.inj H
    go_wp2
    go_ret
    exact ⟨reT, hU HB.out⟩
   ·replace c21 := Bool.eq_false_iff.mpr c21
    subst c21
    rw [if_neg (show ¬ (false = true) by decide)] at H
    have HC22 := Y0.mk H
    clear H
    go_upto_region 3 with (fail)
    go_cut [27] (fun v27 wc => ∃ (kq : Nat) (x27_21 : Bool), v27 = .bool x27_21 ∧ Y0 (Yi.j1 kq x27_21 a0_0 a0_1 a0_2 a0_3 a0_4 a0_5 a0_6 a0_7 a0_8 a0_9 a0_10 a0_11 a0_12 = some r) ∧ Y0 (kq ≤ kj1) ∧ Y0 (wc.heap[g_0]? = some (.cells #[.int .i64 a0_0, .int .i64 a0_1, .int .i64 a0_2, .int .i64 a0_3, .int .i64 a0_4, .bool a0_5, .int .i64 a0_6, .int .i64 a0_7, .int .i64 a0_8, .int .i64 a0_9, .int .i64 a0_10, .int .i64 a0_11, .int .i64 a0_12] 30 (0, 0))) ∧ Y0 (Below w.heap.size w wc))
    case first =>
     have H := HC22.out
     clear HC22
     by_cases c23 : a0_2 < 0
     ·rw [if_pos c23] at H
      have c23b0 := decide_eq_true c23
      clear c23
      (first | rw [c23b0] | (simp only [i64_w, i32_w]; rw [c23b0]) | skip)
      have H' := Y0.mk H
      clear H
      have z_d := Y1 B_0.out
      have f_1o := Y3 B_0.out
      go_wp2
      go_meet
      case rel => exact ⟨_, (true), reS, H', ⟨by have := HJ1.out; first | omega | exact Nat.le_refl _⟩, ⟨kB B_0⟩, ⟨hU HB.out⟩⟩
     ·rw [if_neg c23] at H
      have c23b0 := decide_eq_false c23
      clear c23
      (first | rw [c23b0] | (simp only [i64_w, i32_w]; rw [c23b0]) | skip)
      have H' := Y0.mk H
      clear H
      have z_1n := Y1 B_0.out
      have f_e := Y3 B_0.out
      go_wp2
      go_meet
      case rel => exact ⟨_, (decide (a0_2 ≥ 12)), reS, H', ⟨by have := HJ1.out; first | omega | exact Nat.le_refl _⟩, ⟨kB B_0⟩, ⟨hU HB.out⟩⟩
    case rest =>
     clear HC22
     try clear c2
     try clear p2
     try clear c5
     try clear c7
     try clear c9
     try clear c21
     try clear c23
     try clear c23b0
     try clear z_5
     try clear z_16
     try clear z_26
     try clear z_c
     try clear z_14
     try clear z_12
     try clear z_1m
     try clear z_27
     try clear z_1s
     try clear z_20
     try clear z_1f
     try clear z_1x
     try clear z_g
     try clear z_1
     try clear z_21
     try clear z_b
     try clear z_h
     try clear z_22
     try clear z_y
     try clear z_r
     try clear z_1k
     try clear z_1c
     try clear z_s
     try clear z_o
     try clear z_1e
     try clear z_18
     try clear z_4
     try clear z_11
     try clear z_25
     try clear z_e
     try clear z_13
     try clear z_n
     try clear z_1t
     try clear z_k
     try clear z_1b
     try clear z_23
     try clear z_1l
     try clear z_u
     try clear z_1a
     try clear z_0
     try clear z_i
     try clear z_1o
     try clear z_7
     try clear z_1i
     try clear z_t
     try clear z_l
     try clear z_j
     try clear z_9
     try clear z_p
     try clear z_1z
     try clear z_8
     try clear z_x
     try clear z_2
     try clear z_q
     try clear z_a
     try clear z_1u
     try clear z_1p
     try clear z_19
     try clear z_15
     try clear z_1g
     try clear z_v
     try clear z_f
     try clear z_1d
     try clear z_17
     try clear z_1w
     try clear z_d
     try clear z_2w
     try clear z_2j
     try clear z_2a
     try clear z_2m
     try clear z_2y
     try clear z_2p
     try clear z_2c
     try clear z_2i
     try clear z_2x
     try clear z_2l
     try clear z_2b
     try clear z_2d
     try clear z_1n
     try clear z_2e
     try clear z_2g
     try clear z_2t
     try clear z_2o
     try clear z_2v
     try clear z_2f
     try clear z_2u
     try clear z_2q
     try clear z_2n
     try clear z_2h
     try clear z_28
     try clear z_2k
     try clear z_3
     try clear z_1q
     try clear z_w
     try clear z_1h
     try clear z_m
     try clear z_1j
     try clear z_z
     try clear z_6
     try clear z_1v
     try clear z_24
     try clear z_1r
     try clear z_10
     try clear z_1y
     try clear f_3
     try clear f_1g
     try clear f_10
     try clear f_x
     try clear f_23
     try clear f_1v
     try clear f_1m
     try clear f_17
     try clear f_1w
     try clear f_12
     try clear f_s
     try clear f_1q
     try clear f_1n
     try clear f_1
     try clear f_y
     try clear f_r
     try clear f_21
     try clear f_1l
     try clear f_w
     try clear f_h
     try clear f_1k
     try clear f_1e
     try clear f_c
     try clear f_z
     try clear f_1y
     try clear f_19
     try clear f_5
     try clear f_n
     try clear f_18
     try clear f_g
     try clear f_15
     try clear f_1i
     try clear f_1s
     try clear f_11
     try clear f_j
     try clear f_7
     try clear f_1a
     try clear f_1p
     try clear f_26
     try clear f_0
     try clear f_9
     try clear f_1f
     try clear f_a
     try clear f_1u
     try clear f_1b
     try clear f_1d
     try clear f_1c
     try clear f_m
     try clear f_u
     try clear f_14
     try clear f_24
     try clear f_o
     try clear f_4
     try clear f_6
     try clear f_1r
     try clear f_20
     try clear f_k
     try clear f_1t
     try clear f_1j
     try clear f_v
     try clear f_i
     try clear f_q
     try clear f_16
     try clear f_b
     try clear f_f
     try clear f_1o
     try clear f_2l
     try clear f_2k
     try clear f_2r
     try clear f_2c
     try clear f_2x
     try clear f_2m
     try clear f_2y
     try clear f_2n
     try clear f_2p
     try clear f_28
     try clear f_2t
     try clear f_29
     try clear f_e
     try clear f_2b
     try clear f_2h
     try clear f_2v
     try clear f_2w
     try clear f_2f
     try clear f_2i
     try clear f_2g
     try clear f_2a
     try clear f_2s
     try clear f_2j
     try clear f_2u
     try clear f_2q
     try clear f_2
     try clear f_27
     try clear f_1z
     try clear f_22
     try clear f_1x
     try clear f_25
     try clear f_p
     try clear f_1h
     try clear f_t
     try clear f_d
     try clear f_8
     try clear f_13
     try clear f_l
     try clear p2
     obtain ⟨kq, x27_21, rfl, HA, HJ21, B_0, HB⟩ := hcut
     cases kq with
     | zero => exact absurd HA.out (by simp [Yi.j1])
     | succ kj21 =>
      have H := HA.out
      clear HA
      simp only [Yi.j1] at H
      by_cases c26 : x27_21 = true
      ·subst c26
       have H1 : (some 33) = some r := by rw [if_pos rfl] at H; exact H
       clear H
       have H := H1
       clear H1
       obtain rfl := Option.some.inj H
       go_wp2
       go_ret
       exact ⟨reT, hU HB.out⟩
      ·replace c26 := Bool.eq_false_iff.mpr c26
       subst c26
       rw [if_neg (show ¬ (false = true) by decide)] at H
       by_cases c27 : a0_5 = true
       ·subst c27
        rw [if_pos rfl] at H
        by_cases c28 : (!(a0_6 == 0) || (!(a0_7 == 0) || (!(a0_8 == 0) || (!(a0_9 == 0) || (!(a0_10 == 0) || (!(a0_11 == 0) || (!(a0_12 == 0)))))))) = true
        ·rw [if_pos c28] at H
         have c28b0 : (!(a0_6 == 0) || (!(a0_7 == 0) || (!(a0_8 == 0) || (!(a0_9 == 0) || (!(a0_10 == 0) || (!(a0_11 == 0) || (!(a0_12 == 0)))))))) = true := c28
         clear c28
         obtain rfl := Option.some.inj H
         have z_2r := Y1 B_0.out
         have f_2o := Y3 B_0.out
         go_wp2
         go_ret
         exact ⟨reT, hU HB.out⟩
        ·rw [if_neg c28] at H
         have c28b0 : (!(a0_6 == 0) || (!(a0_7 == 0) || (!(a0_8 == 0) || (!(a0_9 == 0) || (!(a0_10 == 0) || (!(a0_11 == 0) || (!(a0_12 == 0)))))))) = false := by simpa using c28
         clear c28
         obtain rfl := Option.some.inj H
         have z_29 := Y1 B_0.out
         have f_2e := Y3 B_0.out
         go_wp2
         go_ret
         exact ⟨reT, hU HB.out⟩
       ·replace c27 := Bool.eq_false_iff.mpr c27
        subst c27
        have H1 : ((Yf.f kj21 a0_6 a0_7 a0_8 a0_9 a0_10 a0_11 a0_12).bind fun t_1 => (some t_1)) = some r := by rw [if_neg (show ¬ (false = true) by decide)] at H; exact H
        clear H
        have H := H1
        clear H1
        obtain ⟨t_1, A310, H⟩ := bS H
        replace H : (some t_1) = some r := H
        have A31 := Y0.mk A310
        clear A310
        obtain rfl := Option.some.inj H
        have z_2s := Y1 B_0.out
        have f_2d := Y3 B_0.out
        go_wp2_with (first | ((with_reducible refine Yh (f := 97) rfl ?_); refine goesA (some 33) Try.func97 #[.agg #[.int .i64 a0_6, .int .i64 a0_7, .int .i64 a0_8, .int .i64 a0_9, .int .i64 a0_10, .int .i64 a0_11, .int .i64 a0_12]] ?_; (with_reducible refine (Yf.calls kj21 a0_6 a0_7 a0_8 a0_9 a0_10 a0_11 a0_12 t_1 _ A31.out).mono ?_); rintro e w33 ⟨rfl, hb⟩; refine ⟨_, rfl, ?_⟩; replace B_0 := Y0.mk (Y2 (bU B_0.out) hb); replace HB := Y0.mk (Y4 (hU HB.out) hb); (try clear hb); (try clear hb2); (try clear hk); (try clear hi)))
        go_ret
        exact ⟨reT, hU HB.out⟩
end Go.Proofs.Yteopkkoblbmggaa.P
end
section
namespace Go.Proofs.Yteopkkoblbmggaa.P
open Go.RowKit Go.Proofs.YteopkkoblbmggaaW.PrintWords Go.Proofs.YteopkkoblbmggaaW.PrintLast Go.Proofs.YteopkkoblbmggaaW.PrintMore
attribute [local go_sem] YU YW Y14 Y15 YJ YK YV YX
set_option linter.unusedVariables false
set_option linter.unusedSimpArgs false
attribute [local go_sem high] eqA26
def Y12.f (a0_0 : Int) (a0_1 : Int) (a0_2 : Int) (a0_3 : Int) (a0_4 : Int) (a0_5 : Bool) (a0_6 : Int) (a0_7 : Int) (a0_8 : Int) (a0_9 : Int) (a0_10 : Int) (a0_11 : Int) (a0_12 : Int) (a1_0 : Int) (a1_1 : Int) (a1_2 : Int) (a1_3 : Int) (a1_4 : Int) (a1_5 : Bool) (a1_6 : Int) (a1_7 : Int) (a1_8 : Int) (a1_9 : Int) (a1_10 : Int) (a1_11 : Int) (a1_12 : Int) : Option (Bool) := if a0_2 = a1_2 then (if a0_5 = true then (some false) else (if (a0_0 == a1_3 && (a0_1 == a1_4)) = true then (some (a0_3 == a1_3 && (a0_4 == a1_4))) else (some false))) else (some false)
set_option maxHeartbeats 8000000 in
set_option maxRecDepth 100000 in
theorem Y12.calls (a0_0 : Int) (a0_1 : Int) (a0_2 : Int) (a0_3 : Int) (a0_4 : Int) (a0_5 : Bool) (a0_6 : Int) (a0_7 : Int) (a0_8 : Int) (a0_9 : Int) (a0_10 : Int) (a0_11 : Int) (a0_12 : Int) (a1_0 : Int) (a1_1 : Int) (a1_2 : Int) (a1_3 : Int) (a1_4 : Int) (a1_5 : Bool) (a1_6 : Int) (a1_7 : Int) (a1_8 : Int) (a1_9 : Int) (a1_10 : Int) (a1_11 : Int) (a1_12 : Int) (r : Bool) (w : World) (h : Y12.f a0_0 a0_1 a0_2 a0_3 a0_4 a0_5 a0_6 a0_7 a0_8 a0_9 a0_10 a0_11 a0_12 a1_0 a1_1 a1_2 a1_3 a1_4 a1_5 a1_6 a1_7 a1_8 a1_9 a1_10 a1_11 a1_12 = some r) :
  Calls Try.prog 64 #[.agg #[.int .i64 a0_0, .int .i64 a0_1, .int .i64 a0_2, .int .i64 a0_3, .int .i64 a0_4, .bool a0_5, .int .i64 a0_6, .int .i64 a0_7, .int .i64 a0_8, .int .i64 a0_9, .int .i64 a0_10, .int .i64 a0_11, .int .i64 a0_12], .agg #[.int .i64 a1_0, .int .i64 a1_1, .int .i64 a1_2, .int .i64 a1_3, .int .i64 a1_4, .bool a1_5, .int .i64 a1_6, .int .i64 a1_7, .int .i64 a1_8, .int .i64 a1_9, .int .i64 a1_10, .int .i64 a1_11, .int .i64 a1_12]] w fun e w' => e = .returned (.bool r) ∧ Below w.heap.size w w' := by
 have hu30 := Try.underlying30
 have hu26 := Try.underlying26
 have HB := Y0.mk (Below.refl w.heap.size w)
 have H : (if a0_2 = a1_2 then (if a0_5 = true then (some false) else (if (a0_0 == a1_3 && (a0_1 == a1_4)) = true then (some (a0_3 == a1_3 && (a0_4 == a1_4))) else (some false))) else (some false)) = some r := h
 clear h
 by_cases c3 : a0_2 = a1_2
 ·rw [if_pos c3] at H
  have c3b0 := bqT c3
  have c3b1 := bnF c3
  clear c3
  by_cases c4 : a0_5 = true
  ·subst c4
   have H1 : (some false) = some r := by rw [if_pos rfl] at H; exact H
   clear H
   have H := H1
   clear H1
   obtain rfl := Option.some.inj H
   go_enter Try.func64, Try.ntmps64
   go_wp2_with (first | ((with_reducible refine Yj (N := 2) rfl ?_); refine Yl ?hg (N := 2) ?hd (cs := #[.int .i64 a0_0, .int .i64 a0_1, .int .i64 a0_2, .int .i64 a0_3, .int .i64 a0_4, .bool true, .int .i64 a0_6, .int .i64 a0_7, .int .i64 a0_8, .int .i64 a0_9, .int .i64 a0_10, .int .i64 a0_11, .int .i64 a0_12]) (t := 30) ?hr ?_; (case hd => rfl); (case hg => rfl); (case hr => first | (go_simp; done) | (go_simp; rfl)); intro g_1 hg w5 hbox hb; have n0_ := Y0.mk (Y4 (hU HB.out) hb); have n1_ := Y0.mk (hbox); have n2_ := gE hg HB; have n3_ := gE hg HB; clear HB; have HB := n0_; have B_0 := n1_; have W_0 := n2_; have G_1 := n3_; clear n0_ n1_ n2_ n3_; clear hb hbox hg) | ((with_reducible refine Yj (N := 3) rfl ?_); refine Yl ?hg (N := 3) ?hd (cs := #[.int .i64 a1_0, .int .i64 a1_1, .int .i64 a1_2, .int .i64 a1_3, .int .i64 a1_4, .bool a1_5, .int .i64 a1_6, .int .i64 a1_7, .int .i64 a1_8, .int .i64 a1_9, .int .i64 a1_10, .int .i64 a1_11, .int .i64 a1_12]) (t := 30) ?hr ?_; (case hd => rfl); (case hg => rfl); (case hr => first | (go_simp; done) | (go_simp; rfl)); intro g_0 hg w6 hbox hb; have n0_ := Y0.mk (Y2 (bU B_0.out) hb); have n1_ := Y0.mk (Y4 (hU HB.out) hb); have n2_ := Y0.mk (hbox); have n3_ := gE hg HB; have n4_ := gE hg HB; have n5_ := gL hg B_0; have n6_ := gG hg B_0; clear B_0; clear HB; have B_0 := n0_; have HB := n1_; have B_1 := n2_; have W_1 := n3_; have G_0 := n4_; have N_0 := n5_; have N_1 := n6_; clear n0_ n1_ n2_ n3_ n4_ n5_ n6_; clear hb hbox hg; have hnb7 := N_0.out; have hnc7 := N_1.out; have z_1 := Y1 B_0.out; have f_2 := Y3 B_0.out; have z_6 := Y1 B_1.out; have f_6 := Y3 B_1.out))
   go_ret
   exact ⟨reT, hU HB.out⟩
  ·replace c4 := Bool.eq_false_iff.mpr c4
   subst c4
   have H1 : (if (a0_0 == a1_3 && (a0_1 == a1_4)) = true then (some (a0_3 == a1_3 && (a0_4 == a1_4))) else (some false)) = some r := by rw [if_neg (show ¬ (false = true) by decide)] at H; exact H
   clear H
   have H := H1
   clear H1
   by_cases c10 : (a0_0 == a1_3 && (a0_1 == a1_4)) = true
   ·rw [if_pos c10] at H
    have c10b0 : (a0_0 == a1_3 && (a0_1 == a1_4)) = true := c10
    (try (have c10b1 : decide (a0_0 = a1_3 && (a0_1 == a1_4)) = true := by simpa using c10))
    (try (have c10b2 : (a0_0 == a1_3 && (a0_1 == a1_4)) = true := by simpa using c10))
    clear c10
    obtain rfl := Option.some.inj H
    go_enter Try.func64, Try.ntmps64
    go_wp2_with (first | ((with_reducible refine Yj (N := 2) rfl ?_); refine Yl ?hg (N := 2) ?hd (cs := #[.int .i64 a0_0, .int .i64 a0_1, .int .i64 a0_2, .int .i64 a0_3, .int .i64 a0_4, .bool false, .int .i64 a0_6, .int .i64 a0_7, .int .i64 a0_8, .int .i64 a0_9, .int .i64 a0_10, .int .i64 a0_11, .int .i64 a0_12]) (t := 30) ?hr ?_; (case hd => rfl); (case hg => rfl); (case hr => first | (go_simp; done) | (go_simp; rfl)); intro g_1 hg w11 hbox hb; have n0_ := Y0.mk (Y4 (hU HB.out) hb); have n1_ := Y0.mk (hbox); have n2_ := gE hg HB; have n3_ := gE hg HB; clear HB; have HB := n0_; have B_0 := n1_; have W_0 := n2_; have G_1 := n3_; clear n0_ n1_ n2_ n3_; clear hb hbox hg) | ((with_reducible refine Yj (N := 3) rfl ?_); refine Yl ?hg (N := 3) ?hd (cs := #[.int .i64 a1_0, .int .i64 a1_1, .int .i64 a1_2, .int .i64 a1_3, .int .i64 a1_4, .bool a1_5, .int .i64 a1_6, .int .i64 a1_7, .int .i64 a1_8, .int .i64 a1_9, .int .i64 a1_10, .int .i64 a1_11, .int .i64 a1_12]) (t := 30) ?hr ?_; (case hd => rfl); (case hg => rfl); (case hr => first | (go_simp; done) | (go_simp; rfl)); intro g_0 hg w12 hbox hb; have n0_ := Y0.mk (Y2 (bU B_0.out) hb); have n1_ := Y0.mk (Y4 (hU HB.out) hb); have n2_ := Y0.mk (hbox); have n3_ := gE hg HB; have n4_ := gE hg HB; have n5_ := gL hg B_0; have n6_ := gG hg B_0; clear B_0; clear HB; have B_0 := n0_; have HB := n1_; have B_1 := n2_; have W_1 := n3_; have G_0 := n4_; have N_0 := n5_; have N_1 := n6_; clear n0_ n1_ n2_ n3_ n4_ n5_ n6_; clear hb hbox hg; have hnb13 := N_0.out; have hnc13 := N_1.out; have z_2 := Y1 B_0.out; have f_7 := Y3 B_0.out; have z_3 := Y1 B_1.out; have f_3 := Y3 B_1.out))
    go_ret
    exact ⟨reT, hU HB.out⟩
   ·rw [if_neg c10] at H
    have c10b0 : (a0_0 == a1_3 && (a0_1 == a1_4)) = false := by simpa using c10
    (try (have c10b1 : decide (a0_0 = a1_3 && (a0_1 == a1_4)) = false := by simpa using c10))
    (try (have c10b2 : (a0_0 == a1_3 && (a0_1 == a1_4)) = false := by simpa using c10))
    (try (have c10b3 : ¬ (a0_0 = a1_3 && (a0_1 == a1_4)) := by simpa using c10))
    clear c10
    obtain rfl := Option.some.inj H
    go_enter Try.func64, Try.ntmps64
    go_wp2_with (first | ((with_reducible refine Yj (N := 2) rfl ?_); refine Yl ?hg (N := 2) ?hd (cs := #[.int .i64 a0_0, .int .i64 a0_1, .int .i64 a0_2, .int .i64 a0_3, .int .i64 a0_4, .bool false, .int .i64 a0_6, .int .i64 a0_7, .int .i64 a0_8, .int .i64 a0_9, .int .i64 a0_10, .int .i64 a0_11, .int .i64 a0_12]) (t := 30) ?hr ?_; (case hd => rfl); (case hg => rfl); (case hr => first | (go_simp; done) | (go_simp; rfl)); intro g_1 hg w16 hbox hb; have n0_ := Y0.mk (Y4 (hU HB.out) hb); have n1_ := Y0.mk (hbox); have n2_ := gE hg HB; have n3_ := gE hg HB; clear HB; have HB := n0_; have B_0 := n1_; have W_0 := n2_; have G_1 := n3_; clear n0_ n1_ n2_ n3_; clear hb hbox hg) | ((with_reducible refine Yj (N := 3) rfl ?_); refine Yl ?hg (N := 3) ?hd (cs := #[.int .i64 a1_0, .int .i64 a1_1, .int .i64 a1_2, .int .i64 a1_3, .int .i64 a1_4, .bool a1_5, .int .i64 a1_6, .int .i64 a1_7, .int .i64 a1_8, .int .i64 a1_9, .int .i64 a1_10, .int .i64 a1_11, .int .i64 a1_12]) (t := 30) ?hr ?_; (case hd => rfl); (case hg => rfl); (case hr => first | (go_simp; done) | (go_simp; rfl)); intro g_0 hg w17 hbox hb; have n0_ := Y0.mk (Y2 (bU B_0.out) hb); have n1_ := Y0.mk (Y4 (hU HB.out) hb); have n2_ := Y0.mk (hbox); have n3_ := gE hg HB; have n4_ := gE hg HB; have n5_ := gL hg B_0; have n6_ := gG hg B_0; clear B_0; clear HB; have B_0 := n0_; have HB := n1_; have B_1 := n2_; have W_1 := n3_; have G_0 := n4_; have N_0 := n5_; have N_1 := n6_; clear n0_ n1_ n2_ n3_ n4_ n5_ n6_; clear hb hbox hg; have hnb18 := N_0.out; have hnc18 := N_1.out; have z_5 := Y1 B_0.out; have f_4 := Y3 B_0.out; have z_7 := Y1 B_1.out; have f_5 := Y3 B_1.out))
    go_ret
    exact ⟨reT, hU HB.out⟩
 ·rw [if_neg c3] at H
  have c3b0 := bqF c3
  have c3b1 := bnT c3
  obtain rfl := Option.some.inj H
  go_enter Try.func64, Try.ntmps64
  go_wp2_with (first | ((with_reducible refine Yj (N := 2) rfl ?_); refine Yl ?hg (N := 2) ?hd (cs := #[.int .i64 a0_0, .int .i64 a0_1, .int .i64 a0_2, .int .i64 a0_3, .int .i64 a0_4, .bool a0_5, .int .i64 a0_6, .int .i64 a0_7, .int .i64 a0_8, .int .i64 a0_9, .int .i64 a0_10, .int .i64 a0_11, .int .i64 a0_12]) (t := 30) ?hr ?_; (case hd => rfl); (case hg => rfl); (case hr => first | (go_simp; done) | (go_simp; rfl)); intro g_1 hg w21 hbox hb; have n0_ := Y0.mk (Y4 (hU HB.out) hb); have n1_ := Y0.mk (hbox); have n2_ := gE hg HB; have n3_ := gE hg HB; clear HB; have HB := n0_; have B_0 := n1_; have W_0 := n2_; have G_1 := n3_; clear n0_ n1_ n2_ n3_; clear hb hbox hg) | ((with_reducible refine Yj (N := 3) rfl ?_); refine Yl ?hg (N := 3) ?hd (cs := #[.int .i64 a1_0, .int .i64 a1_1, .int .i64 a1_2, .int .i64 a1_3, .int .i64 a1_4, .bool a1_5, .int .i64 a1_6, .int .i64 a1_7, .int .i64 a1_8, .int .i64 a1_9, .int .i64 a1_10, .int .i64 a1_11, .int .i64 a1_12]) (t := 30) ?hr ?_; (case hd => rfl); (case hg => rfl); (case hr => first | (go_simp; done) | (go_simp; rfl)); intro g_0 hg w22 hbox hb; have n0_ := Y0.mk (Y2 (bU B_0.out) hb); have n1_ := Y0.mk (Y4 (hU HB.out) hb); have n2_ := Y0.mk (hbox); have n3_ := gE hg HB; have n4_ := gE hg HB; have n5_ := gL hg B_0; have n6_ := gG hg B_0; clear B_0; clear HB; have B_0 := n0_; have HB := n1_; have B_1 := n2_; have W_1 := n3_; have G_0 := n4_; have N_0 := n5_; have N_1 := n6_; clear n0_ n1_ n2_ n3_ n4_ n5_ n6_; clear hb hbox hg; have hnb23 := N_0.out; have hnc23 := N_1.out; have z_4 := Y1 B_0.out; have f_0 := Y3 B_0.out; have z_0 := Y1 B_1.out; have f_1 := Y3 B_1.out))
  go_ret
  exact ⟨reT, hU HB.out⟩
end Go.Proofs.Yteopkkoblbmggaa.P
end
section
namespace Go.Proofs.Yteopkkoblbmggaa.P
open Go.RowKit Go.Proofs.YteopkkoblbmggaaW.PrintWords Go.Proofs.YteopkkoblbmggaaW.PrintLast Go.Proofs.YteopkkoblbmggaaW.PrintMore
attribute [local go_sem] YU YW Y14 Y15 YJ YK YV YX
set_option linter.unusedVariables false
set_option linter.unusedSimpArgs false
def Ym.l0 : Nat → List (S30) → Int → Int → Int → Int → Int → Int → Bool → Int → Int → Int → Int → Int → Int → Int → Option (Bool)
 | 0, _, _, _, _, _, _, _, _, _, _, _, _, _, _, _ => none
 | k + 1, x0, x5, x_0, x_b, x_7, x_1, x_2, x_a, x_9, x_8, x_3, x_c, x_6, x_5, x_4 => if x5 < (x0.length : Int) then (if 0 ≤ x5 then ((Y12.f ((Y7 x0 x5).f0.f0) ((Y7 x0 x5).f0.f1) ((Y7 x0 x5).f1) ((Y7 x0 x5).f2.f0) ((Y7 x0 x5).f2.f1) ((Y7 x0 x5).f3) ((Y7 x0 x5).f4.f0) ((Y7 x0 x5).f4.f1) ((Y7 x0 x5).f4.f2) ((Y7 x0 x5).f4.f3) ((Y7 x0 x5).f4.f4) ((Y7 x0 x5).f4.f5) ((Y7 x0 x5).f4.f6) x_0 x_b x_7 x_1 x_2 x_a x_9 x_8 x_3 x_c x_6 x_5 x_4).bind fun t_0 => (if t_0 = true then (some true) else (Ym.l0 k x0 (wrap64 (x5 + 1)) x_0 x_b x_7 x_1 x_2 x_a x_9 x_8 x_3 x_c x_6 x_5 x_4))) else (none)) else (some false)
def Ym.f (k : Nat) (l0 : List (S30)) (a1_0 : Int) (a1_1 : Int) (a1_2 : Int) (a1_3 : Int) (a1_4 : Int) (a1_5 : Bool) (a1_6 : Int) (a1_7 : Int) (a1_8 : Int) (a1_9 : Int) (a1_10 : Int) (a1_11 : Int) (a1_12 : Int) : Option (Bool) := Ym.l0 k l0 0 a1_0 a1_1 a1_2 a1_3 a1_4 a1_5 a1_6 a1_7 a1_8 a1_9 a1_10 a1_11 a1_12
theorem Ym.mono_l : ∀ k, (∀ y0 y1 y2 y3 y4 y5 y6 y7 y8 y9 y10 y11 y12 y13 y14, LeO (Ym.l0 k y0 y1 y2 y3 y4 y5 y6 y7 y8 y9 y10 y11 y12 y13 y14) (Ym.l0 (k + 1) y0 y1 y2 y3 y4 y5 y6 y7 y8 y9 y10 y11 y12 y13 y14))
 | 0 => fun _ _ _ _ _ _ _ _ _ _ _ _ _ _ _ r h => by simp [Ym.l0] at h
 | k + 1 => by
  have ih0 := Ym.mono_l k
  ·intro y0 y1 y2 y3 y4 y5 y6 y7 y8 y9 y10 y11 y12 y13 y14
   unfold Ym.l0
   repeat' first
   | (with_reducible exact ih0 _ _ _ _ _ _ _ _ _ _ _ _ _ _ _)
   | (with_reducible exact LeO.refl _)
   | (with_reducible exact LeO.none _)
   | (with_reducible refine LeO.ite ?_ ?_)
   | (with_reducible refine LeO.bind ?_ (fun _ => ?_))
theorem Ym.mono : ∀ a0 a1 a2 a3 a4 a5 a6 a7 a8 a9 a10 a11 a12 a13 k, LeO (Ym.f k a0 a1 a2 a3 a4 a5 a6 a7 a8 a9 a10 a11 a12 a13) (Ym.f (k + 1) a0 a1 a2 a3 a4 a5 a6 a7 a8 a9 a10 a11 a12 a13) := by
 intro a0 a1 a2 a3 a4 a5 a6 a7 a8 a9 a10 a11 a12 a13 k
 have ih0 := Ym.mono_l k
 unfold Ym.f
 repeat' first
   | (with_reducible exact ih0 _ _ _ _ _ _ _ _ _ _ _ _ _ _ _)
   | (with_reducible exact LeO.refl _)
   | (with_reducible exact LeO.none _)
   | (with_reducible refine LeO.ite ?_ ?_)
   | (with_reducible refine LeO.bind ?_ (fun _ => ?_))
set_option maxHeartbeats 8000000 in
set_option maxRecDepth 100000 in
theorem Ym.calls (k : Nat) (A0 : Option Addr) (c0 : Nat) (l0 : List (S30)) (a1_0 : Int) (a1_1 : Int) (a1_2 : Int) (a1_3 : Int) (a1_4 : Int) (a1_5 : Bool) (a1_6 : Int) (a1_7 : Int) (a1_8 : Int) (a1_9 : Int) (a1_10 : Int) (a1_11 : Int) (a1_12 : Int) (r : Bool) (w : World) (hr0 : Kd.C k30 w A0 l0.length l0) (hc0 : l0.length ≤ c0) (h : Ym.f k l0 a1_0 a1_1 a1_2 a1_3 a1_4 a1_5 a1_6 a1_7 a1_8 a1_9 a1_10 a1_11 a1_12 = some r) :
  Calls Try.prog 63 #[.slice A0 l0.length c0, .agg #[.int .i64 a1_0, .int .i64 a1_1, .int .i64 a1_2, .int .i64 a1_3, .int .i64 a1_4, .bool a1_5, .int .i64 a1_6, .int .i64 a1_7, .int .i64 a1_8, .int .i64 a1_9, .int .i64 a1_10, .int .i64 a1_11, .int .i64 a1_12]] w fun e w' => e = .returned (.bool r) ∧ Below w.heap.size w w' := by
 have hu30 := Try.underlying30
 have HR0 := Y0.mk hr0
 have HC0 := Y0.mk hc0
 clear hr0 hc0
 have HB := Y0.mk (Below.refl w.heap.size w)
 have H : (Ym.l0 k l0 0 a1_0 a1_1 a1_2 a1_3 a1_4 a1_5 a1_6 a1_7 a1_8 a1_9 a1_10 a1_11 a1_12) = some r := h
 clear h
 have H' := Y0.mk H
 clear H
 go_enter Try.func63, Try.ntmps63
 go_wp2_with (first | ((with_reducible refine Yj (N := 3) rfl ?_); refine Yl ?hg (N := 3) ?hd (cs := #[.int .i64 a1_0, .int .i64 a1_1, .int .i64 a1_2, .int .i64 a1_3, .int .i64 a1_4, .bool a1_5, .int .i64 a1_6, .int .i64 a1_7, .int .i64 a1_8, .int .i64 a1_9, .int .i64 a1_10, .int .i64 a1_11, .int .i64 a1_12]) (t := 30) ?hr ?_; (case hd => rfl); (case hg => rfl); (case hr => first | (go_simp; done) | (go_simp; rfl)); intro g_0 hg w3 hbox hb; have n0_ := Y0.mk (Y4 (hU HB.out) hb); have n1_ := Y0.mk (hbox); have n2_ := gE hg HB; have n3_ := gE hg HB; clear HB; have HB := n0_; have B_0 := n1_; have W_0 := n2_; have G_0 := n3_; clear n0_ n1_ n2_ n3_; clear hb hbox hg))
 go_loopg [5] k (fun kq v5 w' => ∃ (x5_1 : Int), v5 = .int .i64 x5_1 ∧ Y0 (Ym.l0 kq l0 x5_1 a1_0 a1_1 a1_2 a1_3 a1_4 a1_5 a1_6 a1_7 a1_8 a1_9 a1_10 a1_11 a1_12 = some r) ∧ Y0 (kq ≤ k) ∧ Y0 (w'.heap[g_0]? = some (.cells #[.int .i64 a1_0, .int .i64 a1_1, .int .i64 a1_2, .int .i64 a1_3, .int .i64 a1_4, .bool a1_5, .int .i64 a1_6, .int .i64 a1_7, .int .i64 a1_8, .int .i64 a1_9, .int .i64 a1_10, .int .i64 a1_11, .int .i64 a1_12] 30 (0, 0))) ∧ Y0 (Below w.heap.size w w'))
 case atStart => exact ⟨(0), reS, H', ⟨Nat.le_refl _⟩, ⟨kB B_0⟩, ⟨hU HB.out⟩⟩
 case round =>
  clear H'
  try clear p2
  obtain ⟨x5_1, rfl, HA, HK1, B_0, HB⟩ := hrel
  cases gk with
  | zero => exact absurd HA.out (by simp [Ym.l0])
  | succ k1 =>
   have H := HA.out
   clear HA
   simp only [Ym.l0] at H
   by_cases c4 : x5_1 < (l0.length : Int)
   ·rw [if_pos c4] at H
    have c4b0 := decide_eq_true c4
    clear c4
    obtain ⟨c5, H⟩ := iS H
    have c5b0 := decide_eq_true c5
    clear c5
    obtain ⟨t_0, A60, H⟩ := bS H
    try dsimp only at H
    have A6 := Y0.mk A60
    clear A60
    by_cases c7 : t_0 = true
    ·subst c7
     have H1 : (some true) = some r := by rw [if_pos rfl] at H; exact H
     clear H
     have H := H1
     clear H1
     obtain rfl := Option.some.inj H
     try go_wp2
     replace B_0 := Y0.mk (Y8 B_0.out)
     replace HB := Y0.mk (Yy HB.out)
     have p487 : 0 ≤ (x5_1 : Int) := of_decide_eq_true (by first | (with_reducible assumption) | assumption)
     have q487 : x5_1 < (l0.length : Int) := of_decide_eq_true (by first | (with_reducible assumption) | assumption)
     obtain ⟨d_0, e487, m_b, m_3, m_2, m_c, m_5, m_4, m_9, m_6, m_8, m_1, m_0, m_7, m_a⟩ := Y1m HR0.out x5_1 p487 q487
     have q_9 := m_a
     have q_6 := m_7
     have q_c := m_0
     have q_a := m_1
     have q_3 := m_8
     have q_8 := m_6
     have q_5 := m_9
     have q_0 := m_4
     have q_b := m_5
     have q_2 := m_c
     have q_1 := m_2
     have q_7 := m_3
     have q_4 := m_b
     cases e487
     replace m_b := hbC HB m_b
     replace m_3 := hbC HB m_3
     replace m_2 := hbC HB m_2
     replace m_c := hbC HB m_c
     replace m_5 := hbC HB m_5
     replace m_4 := hbC HB m_4
     replace m_9 := hbC HB m_9
     replace m_6 := hbC HB m_6
     replace m_8 := hbC HB m_8
     replace m_1 := hbC HB m_1
     replace m_0 := hbC HB m_0
     replace m_7 := hbC HB m_7
     replace m_a := hbC HB m_a
     replace p487 := eq_true p487
     replace q487 := eq_true q487
     refine Y1i (n := 6) (S := fun w' => w'.cell? ⟨g_0, 0, none⟩ = some (.int .i64 a1_0) ∧ w'.cell? ⟨g_0, 1, none⟩ = some (.int .i64 a1_1) ∧ w'.cell? ⟨g_0, 2, none⟩ = some (.int .i64 a1_2) ∧ w'.cell? ⟨g_0, 3, none⟩ = some (.int .i64 a1_3) ∧ w'.cell? ⟨g_0, 4, none⟩ = some (.int .i64 a1_4) ∧ w'.cell? ⟨g_0, 5, none⟩ = some (.bool a1_5) ∧ w'.cell? ⟨g_0, 6, none⟩ = some (.int .i64 a1_6) ∧ w'.cell? ⟨g_0, 7, none⟩ = some (.int .i64 a1_7) ∧ w'.cell? ⟨g_0, 8, none⟩ = some (.int .i64 a1_8) ∧ w'.cell? ⟨g_0, 9, none⟩ = some (.int .i64 a1_9) ∧ w'.cell? ⟨g_0, 10, none⟩ = some (.int .i64 a1_10) ∧ w'.cell? ⟨g_0, 11, none⟩ = some (.int .i64 a1_11) ∧ w'.cell? ⟨g_0, 12, none⟩ = some (.int .i64 a1_12) ∧ w'.cell? (d_0.add ((x5_1).toNat * 13)) = some (.int .i64 ((Y7 l0 x5_1).f0.f0)) ∧ w'.cell? ⟨(d_0.add ((x5_1).toNat * 13)).block, (d_0.add ((x5_1).toNat * 13)).off + 1, none⟩ = some (.int .i64 ((Y7 l0 x5_1).f0.f1)) ∧ w'.cell? ⟨(d_0.add ((x5_1).toNat * 13)).block, (d_0.add ((x5_1).toNat * 13)).off + 2, none⟩ = some (.int .i64 ((Y7 l0 x5_1).f1)) ∧ w'.cell? ⟨(d_0.add ((x5_1).toNat * 13)).block, (d_0.add ((x5_1).toNat * 13)).off + 3, none⟩ = some (.int .i64 ((Y7 l0 x5_1).f2.f0)) ∧ w'.cell? ⟨(d_0.add ((x5_1).toNat * 13)).block, (d_0.add ((x5_1).toNat * 13)).off + 4, none⟩ = some (.int .i64 ((Y7 l0 x5_1).f2.f1)) ∧ w'.cell? ⟨(d_0.add ((x5_1).toNat * 13)).block, (d_0.add ((x5_1).toNat * 13)).off + 5, none⟩ = some (.bool ((Y7 l0 x5_1).f3)) ∧ w'.cell? ⟨(d_0.add ((x5_1).toNat * 13)).block, (d_0.add ((x5_1).toNat * 13)).off + 6, none⟩ = some (.int .i64 ((Y7 l0 x5_1).f4.f0)) ∧ w'.cell? ⟨(d_0.add ((x5_1).toNat * 13)).block, (d_0.add ((x5_1).toNat * 13)).off + 7, none⟩ = some (.int .i64 ((Y7 l0 x5_1).f4.f1)) ∧ w'.cell? ⟨(d_0.add ((x5_1).toNat * 13)).block, (d_0.add ((x5_1).toNat * 13)).off + 8, none⟩ = some (.int .i64 ((Y7 l0 x5_1).f4.f2)) ∧ w'.cell? ⟨(d_0.add ((x5_1).toNat * 13)).block, (d_0.add ((x5_1).toNat * 13)).off + 9, none⟩ = some (.int .i64 ((Y7 l0 x5_1).f4.f3)) ∧ w'.cell? ⟨(d_0.add ((x5_1).toNat * 13)).block, (d_0.add ((x5_1).toNat * 13)).off + 10, none⟩ = some (.int .i64 ((Y7 l0 x5_1).f4.f4)) ∧ w'.cell? ⟨(d_0.add ((x5_1).toNat * 13)).block, (d_0.add ((x5_1).toNat * 13)).off + 11, none⟩ = some (.int .i64 ((Y7 l0 x5_1).f4.f5)) ∧ w'.cell? ⟨(d_0.add ((x5_1).toNat * 13)).block, (d_0.add ((x5_1).toNat * 13)).off + 12, none⟩ = some (.int .i64 ((Y7 l0 x5_1).f4.f6))) (ds := []) #[false, false, false, false, false, false] (by kernel_rfl) rfl rfl ⟨(Y1 B_0.out 0).trans rfl, (Y1 B_0.out 1).trans rfl, (Y1 B_0.out 2).trans rfl, (Y1 B_0.out 3).trans rfl, (Y1 B_0.out 4).trans rfl, (Y1 B_0.out 5).trans rfl, (Y1 B_0.out 6).trans rfl, (Y1 B_0.out 7).trans rfl, (Y1 B_0.out 8).trans rfl, (Y1 B_0.out 9).trans rfl, (Y1 B_0.out 10).trans rfl, (Y1 B_0.out 11).trans rfl, (Y1 B_0.out 12).trans rfl, (hbC HB q_4), (hbC HB q_7), (hbC HB q_1), (hbC HB q_2), (hbC HB q_b), (hbC HB q_0), (hbC HB q_5), (hbC HB q_8), (hbC HB q_3), (hbC HB q_a), (hbC HB q_c), (hbC HB q_6), (hbC HB q_9)⟩ (fun hHeld => ?_)
     generalize wr.drew = w8 at B_0 HB m_b m_3 m_0 m_7 m_a m_2 m_c m_5 m_4 m_9 m_6 m_8 m_1 hHeld ⊢
     refine puA 0 12 (bs 6 1) ?_
     refine puA 1 13 (bs 6 3) ?_
     refine puA 2 14 (bs 6 7) ?_
     refine tkA 3 15 (bs 6 15) hHeld ?_
     refine tkA 4 16 (bs 6 31) hHeld ?_
     refine one_ (i := 5) (N := some 17) (bs 6 63) rfl rfl (by kernel_rfl) (by decide) (fun K hK => ?_)
     refine goes_ Try.func64 (by kernel_rfl) rfl #[.agg #[.int .i64 ((Y7 l0 x5_1).f0.f0), .int .i64 ((Y7 l0 x5_1).f0.f1), .int .i64 ((Y7 l0 x5_1).f1), .int .i64 ((Y7 l0 x5_1).f2.f0), .int .i64 ((Y7 l0 x5_1).f2.f1), .bool ((Y7 l0 x5_1).f3), .int .i64 ((Y7 l0 x5_1).f4.f0), .int .i64 ((Y7 l0 x5_1).f4.f1), .int .i64 ((Y7 l0 x5_1).f4.f2), .int .i64 ((Y7 l0 x5_1).f4.f3), .int .i64 ((Y7 l0 x5_1).f4.f4), .int .i64 ((Y7 l0 x5_1).f4.f5), .int .i64 ((Y7 l0 x5_1).f4.f6)], .agg #[.int .i64 a1_0, .int .i64 a1_1, .int .i64 a1_2, .int .i64 a1_3, .int .i64 a1_4, .bool a1_5, .int .i64 a1_6, .int .i64 a1_7, .int .i64 a1_8, .int .i64 a1_9, .int .i64 a1_10, .int .i64 a1_11, .int .i64 a1_12]] (by rfl) rfl rfl (by (try simp only [List.map_toArray, List.map_cons, List.map_nil]); first | done | rfl | (simp only [List.length_drop, List.length_take]; rfl)) ?_
     with_reducible refine (Y12.calls ((Y7 l0 x5_1).f0.f0) ((Y7 l0 x5_1).f0.f1) ((Y7 l0 x5_1).f1) ((Y7 l0 x5_1).f2.f0) ((Y7 l0 x5_1).f2.f1) ((Y7 l0 x5_1).f3) ((Y7 l0 x5_1).f4.f0) ((Y7 l0 x5_1).f4.f1) ((Y7 l0 x5_1).f4.f2) ((Y7 l0 x5_1).f4.f3) ((Y7 l0 x5_1).f4.f4) ((Y7 l0 x5_1).f4.f5) ((Y7 l0 x5_1).f4.f6) a1_0 a1_1 a1_2 a1_3 a1_4 a1_5 a1_6 a1_7 a1_8 a1_9 a1_10 a1_11 a1_12 true _ A6.out).mono ?_
     rintro e w9 ⟨rfl, hb⟩
     refine ⟨_, rfl, ?_⟩
     replace B_0 := Y0.mk (Y2 (bU B_0.out) hb)
     replace HB := Y0.mk (Y4 (hU HB.out) hb)
     (try clear hb)
     (try clear hb2)
     (try clear hk)
     (try clear hi)
     refine hK.out _ _ ⟨(Y1 B_0.out 0).trans rfl, (Y1 B_0.out 1).trans rfl, (Y1 B_0.out 2).trans rfl, (Y1 B_0.out 3).trans rfl, (Y1 B_0.out 4).trans rfl, (Y1 B_0.out 5).trans rfl, (Y1 B_0.out 6).trans rfl, (Y1 B_0.out 7).trans rfl, (Y1 B_0.out 8).trans rfl, (Y1 B_0.out 9).trans rfl, (Y1 B_0.out 10).trans rfl, (Y1 B_0.out 11).trans rfl, (Y1 B_0.out 12).trans rfl, (hbC HB q_4), (hbC HB q_7), (hbC HB q_1), (hbC HB q_2), (hbC HB q_b), (hbC HB q_0), (hbC HB q_5), (hbC HB q_8), (hbC HB q_3), (hbC HB q_a), (hbC HB q_c), (hbC HB q_6), (hbC HB q_9)⟩ (fun hHeld => ?_)
     clear hK K
     refine nmA 17 ?_
     refine done_ (by kernel_rfl) ?_
     try go_wp2
     go_ret
     exact ⟨reT, hU HB.out⟩
    ·replace c7 := Bool.eq_false_iff.mpr c7
     subst c7
     have H1 : (Ym.l0 k1 l0 (wrap64 (x5_1 + 1)) a1_0 a1_1 a1_2 a1_3 a1_4 a1_5 a1_6 a1_7 a1_8 a1_9 a1_10 a1_11 a1_12) = some r := by rw [if_neg (show ¬ (false = true) by decide)] at H; exact H
     clear H
     have H := H1
     clear H1
     have H' := Y0.mk H
     clear H
     try go_wp2
     replace B_0 := Y0.mk (Y8 B_0.out)
     replace HB := Y0.mk (Yy HB.out)
     have p487 : 0 ≤ (x5_1 : Int) := of_decide_eq_true (by first | (with_reducible assumption) | assumption)
     have q487 : x5_1 < (l0.length : Int) := of_decide_eq_true (by first | (with_reducible assumption) | assumption)
     obtain ⟨d_0, e487, m_b, m_3, m_2, m_c, m_5, m_4, m_9, m_6, m_8, m_1, m_0, m_7, m_a⟩ := Y1m HR0.out x5_1 p487 q487
     have q_9 := m_a
     have q_6 := m_7
     have q_c := m_0
     have q_a := m_1
     have q_3 := m_8
     have q_8 := m_6
     have q_5 := m_9
     have q_0 := m_4
     have q_b := m_5
     have q_2 := m_c
     have q_1 := m_2
     have q_7 := m_3
     have q_4 := m_b
     cases e487
     replace m_b := hbC HB m_b
     replace m_3 := hbC HB m_3
     replace m_2 := hbC HB m_2
     replace m_c := hbC HB m_c
     replace m_5 := hbC HB m_5
     replace m_4 := hbC HB m_4
     replace m_9 := hbC HB m_9
     replace m_6 := hbC HB m_6
     replace m_8 := hbC HB m_8
     replace m_1 := hbC HB m_1
     replace m_0 := hbC HB m_0
     replace m_7 := hbC HB m_7
     replace m_a := hbC HB m_a
     replace p487 := eq_true p487
     replace q487 := eq_true q487
     refine Y1i (n := 6) (S := fun w' => w'.cell? ⟨g_0, 0, none⟩ = some (.int .i64 a1_0) ∧ w'.cell? ⟨g_0, 1, none⟩ = some (.int .i64 a1_1) ∧ w'.cell? ⟨g_0, 2, none⟩ = some (.int .i64 a1_2) ∧ w'.cell? ⟨g_0, 3, none⟩ = some (.int .i64 a1_3) ∧ w'.cell? ⟨g_0, 4, none⟩ = some (.int .i64 a1_4) ∧ w'.cell? ⟨g_0, 5, none⟩ = some (.bool a1_5) ∧ w'.cell? ⟨g_0, 6, none⟩ = some (.int .i64 a1_6) ∧ w'.cell? ⟨g_0, 7, none⟩ = some (.int .i64 a1_7) ∧ w'.cell? ⟨g_0, 8, none⟩ = some (.int .i64 a1_8) ∧ w'.cell? ⟨g_0, 9, none⟩ = some (.int .i64 a1_9) ∧ w'.cell? ⟨g_0, 10, none⟩ = some (.int .i64 a1_10) ∧ w'.cell? ⟨g_0, 11, none⟩ = some (.int .i64 a1_11) ∧ w'.cell? ⟨g_0, 12, none⟩ = some (.int .i64 a1_12) ∧ w'.cell? (d_0.add ((x5_1).toNat * 13)) = some (.int .i64 ((Y7 l0 x5_1).f0.f0)) ∧ w'.cell? ⟨(d_0.add ((x5_1).toNat * 13)).block, (d_0.add ((x5_1).toNat * 13)).off + 1, none⟩ = some (.int .i64 ((Y7 l0 x5_1).f0.f1)) ∧ w'.cell? ⟨(d_0.add ((x5_1).toNat * 13)).block, (d_0.add ((x5_1).toNat * 13)).off + 2, none⟩ = some (.int .i64 ((Y7 l0 x5_1).f1)) ∧ w'.cell? ⟨(d_0.add ((x5_1).toNat * 13)).block, (d_0.add ((x5_1).toNat * 13)).off + 3, none⟩ = some (.int .i64 ((Y7 l0 x5_1).f2.f0)) ∧ w'.cell? ⟨(d_0.add ((x5_1).toNat * 13)).block, (d_0.add ((x5_1).toNat * 13)).off + 4, none⟩ = some (.int .i64 ((Y7 l0 x5_1).f2.f1)) ∧ w'.cell? ⟨(d_0.add ((x5_1).toNat * 13)).block, (d_0.add ((x5_1).toNat * 13)).off + 5, none⟩ = some (.bool ((Y7 l0 x5_1).f3)) ∧ w'.cell? ⟨(d_0.add ((x5_1).toNat * 13)).block, (d_0.add ((x5_1).toNat * 13)).off + 6, none⟩ = some (.int .i64 ((Y7 l0 x5_1).f4.f0)) ∧ w'.cell? ⟨(d_0.add ((x5_1).toNat * 13)).block, (d_0.add ((x5_1).toNat * 13)).off + 7, none⟩ = some (.int .i64 ((Y7 l0 x5_1).f4.f1)) ∧ w'.cell? ⟨(d_0.add ((x5_1).toNat * 13)).block, (d_0.add ((x5_1).toNat * 13)).off + 8, none⟩ = some (.int .i64 ((Y7 l0 x5_1).f4.f2)) ∧ w'.cell? ⟨(d_0.add ((x5_1).toNat * 13)).block, (d_0.add ((x5_1).toNat * 13)).off + 9, none⟩ = some (.int .i64 ((Y7 l0 x5_1).f4.f3)) ∧ w'.cell? ⟨(d_0.add ((x5_1).toNat * 13)).block, (d_0.add ((x5_1).toNat * 13)).off + 10, none⟩ = some (.int .i64 ((Y7 l0 x5_1).f4.f4)) ∧ w'.cell? ⟨(d_0.add ((x5_1).toNat * 13)).block, (d_0.add ((x5_1).toNat * 13)).off + 11, none⟩ = some (.int .i64 ((Y7 l0 x5_1).f4.f5)) ∧ w'.cell? ⟨(d_0.add ((x5_1).toNat * 13)).block, (d_0.add ((x5_1).toNat * 13)).off + 12, none⟩ = some (.int .i64 ((Y7 l0 x5_1).f4.f6))) (ds := []) #[false, false, false, false, false, false] (by kernel_rfl) rfl rfl ⟨(Y1 B_0.out 0).trans rfl, (Y1 B_0.out 1).trans rfl, (Y1 B_0.out 2).trans rfl, (Y1 B_0.out 3).trans rfl, (Y1 B_0.out 4).trans rfl, (Y1 B_0.out 5).trans rfl, (Y1 B_0.out 6).trans rfl, (Y1 B_0.out 7).trans rfl, (Y1 B_0.out 8).trans rfl, (Y1 B_0.out 9).trans rfl, (Y1 B_0.out 10).trans rfl, (Y1 B_0.out 11).trans rfl, (Y1 B_0.out 12).trans rfl, (hbC HB q_4), (hbC HB q_7), (hbC HB q_1), (hbC HB q_2), (hbC HB q_b), (hbC HB q_0), (hbC HB q_5), (hbC HB q_8), (hbC HB q_3), (hbC HB q_a), (hbC HB q_c), (hbC HB q_6), (hbC HB q_9)⟩ (fun hHeld => ?_)
     generalize wr.drew = w10 at B_0 HB m_b m_3 m_0 m_7 m_a m_2 m_c m_5 m_4 m_9 m_6 m_8 m_1 hHeld ⊢
     refine puA 0 12 (bs 6 1) ?_
     refine puA 1 13 (bs 6 3) ?_
     refine puA 2 14 (bs 6 7) ?_
     refine tkA 3 15 (bs 6 15) hHeld ?_
     refine tkA 4 16 (bs 6 31) hHeld ?_
     refine one_ (i := 5) (N := some 17) (bs 6 63) rfl rfl (by kernel_rfl) (by decide) (fun K hK => ?_)
     refine goes_ Try.func64 (by kernel_rfl) rfl #[.agg #[.int .i64 ((Y7 l0 x5_1).f0.f0), .int .i64 ((Y7 l0 x5_1).f0.f1), .int .i64 ((Y7 l0 x5_1).f1), .int .i64 ((Y7 l0 x5_1).f2.f0), .int .i64 ((Y7 l0 x5_1).f2.f1), .bool ((Y7 l0 x5_1).f3), .int .i64 ((Y7 l0 x5_1).f4.f0), .int .i64 ((Y7 l0 x5_1).f4.f1), .int .i64 ((Y7 l0 x5_1).f4.f2), .int .i64 ((Y7 l0 x5_1).f4.f3), .int .i64 ((Y7 l0 x5_1).f4.f4), .int .i64 ((Y7 l0 x5_1).f4.f5), .int .i64 ((Y7 l0 x5_1).f4.f6)], .agg #[.int .i64 a1_0, .int .i64 a1_1, .int .i64 a1_2, .int .i64 a1_3, .int .i64 a1_4, .bool a1_5, .int .i64 a1_6, .int .i64 a1_7, .int .i64 a1_8, .int .i64 a1_9, .int .i64 a1_10, .int .i64 a1_11, .int .i64 a1_12]] (by rfl) rfl rfl (by (try simp only [List.map_toArray, List.map_cons, List.map_nil]); first | done | rfl | (simp only [List.length_drop, List.length_take]; rfl)) ?_
     with_reducible refine (Y12.calls ((Y7 l0 x5_1).f0.f0) ((Y7 l0 x5_1).f0.f1) ((Y7 l0 x5_1).f1) ((Y7 l0 x5_1).f2.f0) ((Y7 l0 x5_1).f2.f1) ((Y7 l0 x5_1).f3) ((Y7 l0 x5_1).f4.f0) ((Y7 l0 x5_1).f4.f1) ((Y7 l0 x5_1).f4.f2) ((Y7 l0 x5_1).f4.f3) ((Y7 l0 x5_1).f4.f4) ((Y7 l0 x5_1).f4.f5) ((Y7 l0 x5_1).f4.f6) a1_0 a1_1 a1_2 a1_3 a1_4 a1_5 a1_6 a1_7 a1_8 a1_9 a1_10 a1_11 a1_12 false _ A6.out).mono ?_
     rintro e w11 ⟨rfl, hb⟩
     refine ⟨_, rfl, ?_⟩
     replace B_0 := Y0.mk (Y2 (bU B_0.out) hb)
     replace HB := Y0.mk (Y4 (hU HB.out) hb)
     (try clear hb)
     (try clear hb2)
     (try clear hk)
     (try clear hi)
     refine hK.out _ _ ⟨(Y1 B_0.out 0).trans rfl, (Y1 B_0.out 1).trans rfl, (Y1 B_0.out 2).trans rfl, (Y1 B_0.out 3).trans rfl, (Y1 B_0.out 4).trans rfl, (Y1 B_0.out 5).trans rfl, (Y1 B_0.out 6).trans rfl, (Y1 B_0.out 7).trans rfl, (Y1 B_0.out 8).trans rfl, (Y1 B_0.out 9).trans rfl, (Y1 B_0.out 10).trans rfl, (Y1 B_0.out 11).trans rfl, (Y1 B_0.out 12).trans rfl, (hbC HB q_4), (hbC HB q_7), (hbC HB q_1), (hbC HB q_2), (hbC HB q_b), (hbC HB q_0), (hbC HB q_5), (hbC HB q_8), (hbC HB q_3), (hbC HB q_a), (hbC HB q_c), (hbC HB q_6), (hbC HB q_9)⟩ (fun hHeld => ?_)
     clear hK K
     refine nmA 17 ?_
     refine done_ (by kernel_rfl) ?_
     try go_wp2
     go_roundg k1
     case measure => have := HK1.out; omega
     case rel => exact ⟨(wrap64 (x5_1 + 1)), reS, H', ⟨by have := HK1.out; omega⟩, ⟨kB B_0⟩, ⟨hU HB.out⟩⟩
   ·rw [if_neg c4] at H
    have c4b0 := decide_eq_false c4
    clear c4
    obtain rfl := Option.some.inj H
    go_wp2
    go_ret
    exact ⟨reT, hU HB.out⟩
end Go.Proofs.Yteopkkoblbmggaa.P
end

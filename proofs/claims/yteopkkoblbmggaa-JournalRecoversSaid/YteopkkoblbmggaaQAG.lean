/- Texts of this claim in one: VP9, VP56; no condition. -/
import Derived.Test.YteopkkoblbmggaaQAC
import Derived.Test.YteopkkoblbmggaaQAE
import Derived.Test.YteopkkoblbmggaaQAF
section
namespace Go.Proofs.Yteopkkoblbmggaa.P
open Go.RowKit Go.Proofs.YteopkkoblbmggaaW.PrintWords Go.Proofs.YteopkkoblbmggaaW.PrintLast Go.Proofs.YteopkkoblbmggaaW.PrintMore
attribute [local go_sem] Y11 Y13 Y19 Y1a YR YS Y12 Y14
set_option linter.unusedVariables false
set_option linter.unusedSimpArgs false
attribute [local go_sem high] eqA28
mutual
def Yz.j0 : Nat → Bool → Int → Int → Int → Int → Int → Bool → Int → Int → Int → Int → Int → Int → Int → Option (Int)
 | 0, _, _, _, _, _, _, _, _, _, _, _, _, _, _ => none
 | k + 1, x19, x_b, x_a, x_4, x_9, x_c, x_8, x_5, x_0, x_1, x_3, x_2, x_7, x_6 => if x19 = true then (some 43) else (if x_4 < 0 then (Yz.j1 k true x_b x_a x_4 x_9 x_c x_8 x_5 x_0 x_1 x_3 x_2 x_7 x_6) else (Yz.j1 k (decide (x_4 ≥ 12)) x_b x_a x_4 x_9 x_c x_8 x_5 x_0 x_1 x_3 x_2 x_7 x_6))
def Yz.j1 : Nat → Bool → Int → Int → Int → Int → Int → Bool → Int → Int → Int → Int → Int → Int → Int → Option (Int)
 | 0, _, _, _, _, _, _, _, _, _, _, _, _, _, _ => none
 | k + 1, x27, x_b, x_a, x_4, x_9, x_c, x_8, x_5, x_0, x_1, x_3, x_2, x_7, x_6 => if x27 = true then (some 33) else (if x_8 = true then (if (!(x_5 == 0) || (!(x_0 == 0) || (!(x_1 == 0) || (!(x_3 == 0) || (!(x_2 == 0) || (!(x_7 == 0) || (!(x_6 == 0)))))))) = true then (some 2) else (some 0)) else ((YF.f k x_5 x_0 x_1 x_3 x_2 x_7 x_6).bind fun t_1 => (some t_1)))
end
def Yz.f (k : Nat) (a0_0 : Int) (a0_1 : Int) (a0_2 : Int) (a0_3 : Int) (a0_4 : Int) (a0_5 : Bool) (a0_6 : Int) (a0_7 : Int) (a0_8 : Int) (a0_9 : Int) (a0_10 : Int) (a0_11 : Int) (a0_12 : Int) : Option (Int) := (Y1r.f a0_0 a0_1).bind fun t_2 => (if t_2 = true then ((Y1r.f a0_3 a0_4).bind fun t_3 => (if t_3 = true then ((Y1B.f a0_0 a0_1 a0_3 a0_4).bind fun t_0 => (Yz.j0 k t_0 a0_0 a0_1 a0_2 a0_3 a0_4 a0_5 a0_6 a0_7 a0_8 a0_9 a0_10 a0_11 a0_12)) else (Yz.j0 k true a0_0 a0_1 a0_2 a0_3 a0_4 a0_5 a0_6 a0_7 a0_8 a0_9 a0_10 a0_11 a0_12))) else (Yz.j0 k true a0_0 a0_1 a0_2 a0_3 a0_4 a0_5 a0_6 a0_7 a0_8 a0_9 a0_10 a0_11 a0_12))
theorem Yz.mono_l : ∀ k, (∀ y0 y1 y2 y3 y4 y5 y6 y7 y8 y9 y10 y11 y12 y13, LeO (Yz.j0 k y0 y1 y2 y3 y4 y5 y6 y7 y8 y9 y10 y11 y12 y13) (Yz.j0 (k + 1) y0 y1 y2 y3 y4 y5 y6 y7 y8 y9 y10 y11 y12 y13)) ∧ (∀ y0 y1 y2 y3 y4 y5 y6 y7 y8 y9 y10 y11 y12 y13, LeO (Yz.j1 k y0 y1 y2 y3 y4 y5 y6 y7 y8 y9 y10 y11 y12 y13) (Yz.j1 (k + 1) y0 y1 y2 y3 y4 y5 y6 y7 y8 y9 y10 y11 y12 y13))
 | 0 => ⟨fun _ _ _ _ _ _ _ _ _ _ _ _ _ _ r h => by simp [Yz.j0] at h, fun _ _ _ _ _ _ _ _ _ _ _ _ _ _ r h => by simp [Yz.j1] at h⟩
 | k + 1 => by
  obtain ⟨ih0, ih1⟩ := Yz.mono_l k
  refine ⟨?_, ?_⟩
  ·intro y0 y1 y2 y3 y4 y5 y6 y7 y8 y9 y10 y11 y12 y13
   unfold Yz.j0
   repeat' first
   | (with_reducible exact ih0 _ _ _ _ _ _ _ _ _ _ _ _ _ _)
   | (with_reducible exact ih1 _ _ _ _ _ _ _ _ _ _ _ _ _ _)
   | (with_reducible exact YF.mono _ _ _ _ _ _ _ _)
   | (with_reducible exact LeO.refl _)
   | (with_reducible exact LeO.none _)
   | (with_reducible refine LeO.ite ?_ ?_)
   | (with_reducible refine LeO.bind ?_ (fun _ => ?_))
  ·intro y0 y1 y2 y3 y4 y5 y6 y7 y8 y9 y10 y11 y12 y13
   unfold Yz.j1
   repeat' first
   | (with_reducible exact ih0 _ _ _ _ _ _ _ _ _ _ _ _ _ _)
   | (with_reducible exact ih1 _ _ _ _ _ _ _ _ _ _ _ _ _ _)
   | (with_reducible exact YF.mono _ _ _ _ _ _ _ _)
   | (with_reducible exact LeO.refl _)
   | (with_reducible exact LeO.none _)
   | (with_reducible refine LeO.ite ?_ ?_)
   | (with_reducible refine LeO.bind ?_ (fun _ => ?_))
theorem Yz.mono : ∀ a0 a1 a2 a3 a4 a5 a6 a7 a8 a9 a10 a11 a12 k, LeO (Yz.f k a0 a1 a2 a3 a4 a5 a6 a7 a8 a9 a10 a11 a12) (Yz.f (k + 1) a0 a1 a2 a3 a4 a5 a6 a7 a8 a9 a10 a11 a12) := by
 intro a0 a1 a2 a3 a4 a5 a6 a7 a8 a9 a10 a11 a12 k
 obtain ⟨ih0, ih1⟩ := Yz.mono_l k
 unfold Yz.f
 repeat' first
   | (with_reducible exact ih0 _ _ _ _ _ _ _ _ _ _ _ _ _ _)
   | (with_reducible exact ih1 _ _ _ _ _ _ _ _ _ _ _ _ _ _)
   | (with_reducible exact YF.mono _ _ _ _ _ _ _ _)
   | (with_reducible exact LeO.refl _)
   | (with_reducible exact LeO.none _)
   | (with_reducible refine LeO.ite ?_ ?_)
   | (with_reducible refine LeO.bind ?_ (fun _ => ?_))
set_option maxHeartbeats 8000000 in
set_option maxRecDepth 100000 in
theorem Yz.calls (k : Nat) (a0_0 : Int) (a0_1 : Int) (a0_2 : Int) (a0_3 : Int) (a0_4 : Int) (a0_5 : Bool) (a0_6 : Int) (a0_7 : Int) (a0_8 : Int) (a0_9 : Int) (a0_10 : Int) (a0_11 : Int) (a0_12 : Int) (r : Int) (w : World) (h : Yz.f k a0_0 a0_1 a0_2 a0_3 a0_4 a0_5 a0_6 a0_7 a0_8 a0_9 a0_10 a0_11 a0_12 = some r) :
  Calls Try.prog 54 #[.agg #[.int .i64 a0_0, .int .i64 a0_1, .int .i64 a0_2, .int .i64 a0_3, .int .i64 a0_4, .bool a0_5, .int .i64 a0_6, .int .i64 a0_7, .int .i64 a0_8, .int .i64 a0_9, .int .i64 a0_10, .int .i64 a0_11, .int .i64 a0_12]] w fun e w' => e = .returned (.int .i64 r) ∧ Below w.heap.size w w' := by
 have hu30 := Try.underlying30
 have hu26 := Try.underlying26
 have hu28 := Try.underlying28
 have HB := Y0.mk (Below.refl w.heap.size w)
 have H : ((Y1r.f a0_0 a0_1).bind fun t_2 => (if t_2 = true then ((Y1r.f a0_3 a0_4).bind fun t_3 => (if t_3 = true then ((Y1B.f a0_0 a0_1 a0_3 a0_4).bind fun t_0 => (Yz.j0 k t_0 a0_0 a0_1 a0_2 a0_3 a0_4 a0_5 a0_6 a0_7 a0_8 a0_9 a0_10 a0_11 a0_12)) else (Yz.j0 k true a0_0 a0_1 a0_2 a0_3 a0_4 a0_5 a0_6 a0_7 a0_8 a0_9 a0_10 a0_11 a0_12))) else (Yz.j0 k true a0_0 a0_1 a0_2 a0_3 a0_4 a0_5 a0_6 a0_7 a0_8 a0_9 a0_10 a0_11 a0_12))) = some r := h
 clear h
 have HC2 := Y0.mk H
 clear H
 go_enter Try.func54, Try.ntmps54
 go_upto_region 1 with (first | ((with_reducible refine Yl (N := 1) rfl ?_); refine Yk ?hg (N := 1) ?hd (cs := #[.int .i64 a0_0, .int .i64 a0_1, .int .i64 a0_2, .int .i64 a0_3, .int .i64 a0_4, .bool a0_5, .int .i64 a0_6, .int .i64 a0_7, .int .i64 a0_8, .int .i64 a0_9, .int .i64 a0_10, .int .i64 a0_11, .int .i64 a0_12]) (t := 30) ?hr ?_; (case hd => rfl); (case hg => rfl); (case hr => first | (go_simp; done) | (go_simp; rfl)); intro g_0 hg w3 hbox hb; have n0_ := Y0.mk (Y4 (hU HB.out) hb); have n1_ := Y0.mk (hbox); have n2_ := gE hg HB; have n3_ := gE hg HB; clear HB; have HB := n0_; have B_0 := n1_; have W_0 := n2_; have G_0 := n3_; clear n0_ n1_ n2_ n3_; clear hb hbox hg))
 (try simp only [Act.put, List.setIfInBounds_toArray, List.set_cons_zero, List.set_cons_succ])
 go_cut [19] (fun v19 wc => ∃ (kq : Nat) (x19_1 : Bool), v19 = .bool x19_1 ∧ Y0 (Yz.j0 kq x19_1 a0_0 a0_1 a0_2 a0_3 a0_4 a0_5 a0_6 a0_7 a0_8 a0_9 a0_10 a0_11 a0_12 = some r) ∧ Y0 (kq ≤ k) ∧ Y0 (wc.heap[g_0]? = some (.cells #[.int .i64 a0_0, .int .i64 a0_1, .int .i64 a0_2, .int .i64 a0_3, .int .i64 a0_4, .bool a0_5, .int .i64 a0_6, .int .i64 a0_7, .int .i64 a0_8, .int .i64 a0_9, .int .i64 a0_10, .int .i64 a0_11, .int .i64 a0_12] 30 (0, 0))) ∧ Y0 (Below w.heap.size w wc))
 case first =>
  have H := HC2.out
  clear HC2
  obtain ⟨t_2, A40, H⟩ := bS H
  try dsimp only at H
  have A4 := Y0.mk A40
  clear A40
  by_cases c5 : t_2 = true
  ·subst c5
   rw [if_pos rfl] at H
   obtain ⟨t_3, A60, H⟩ := bS H
   try dsimp only at H
   have A6 := Y0.mk A60
   clear A60
   by_cases c7 : t_3 = true
   ·subst c7
    rw [if_pos rfl] at H
    obtain ⟨t_0, A80, H⟩ := bS H
    replace H : (Yz.j0 k t_0 a0_0 a0_1 a0_2 a0_3 a0_4 a0_5 a0_6 a0_7 a0_8 a0_9 a0_10 a0_11 a0_12) = some r := H
    have A8 := Y0.mk A80
    clear A80
    have H' := Y0.mk H
    clear H
    have z_0 := Y1 B_0.out
    have f_1 := Y3 B_0.out
    go_wp2_with (first | ((with_reducible refine Y8 (f := 93) rfl ?_); refine goesA (some 5) Try.func93 #[.agg #[.int .i64 a0_0, .int .i64 a0_1]] ?_; (with_reducible refine (Y1r.calls a0_0 a0_1 true _ A4.out).mono ?_); rintro e w10 ⟨rfl, hb⟩; refine ⟨_, rfl, ?_⟩; replace B_0 := Y0.mk (Y6 (bU B_0.out) hb); replace HB := Y0.mk (Y4 (hU HB.out) hb); (try clear hb); (try clear hb2); (try clear hk); (try clear hi); have z_3 := Y1 B_0.out; have f_2 := Y3 B_0.out) | (go_at_call 93; (with_reducible refine (Y1r.calls a0_3 a0_4 true _ A6.out).mono ?_); rintro e w12 ⟨rfl, hb⟩; replace B_0 := Y0.mk (Y6 (bU B_0.out) hb); replace HB := Y0.mk (Y4 (hU HB.out) hb); (try clear hb); (try clear hb2); (try clear hk); (try clear hi); have z_5 := Y1 B_0.out; have f_4 := Y3 B_0.out) | (go_at_call 75; (with_reducible refine (Y1B.calls a0_0 a0_1 a0_3 a0_4 t_0 _ A8.out).mono ?_); rintro e w14 ⟨rfl, hb⟩; replace B_0 := Y0.mk (Y6 (bU B_0.out) hb); replace HB := Y0.mk (Y4 (hU HB.out) hb); (try clear hb); (try clear hb2); (try clear hk); (try clear hi)))
    go_meet
    case rel => exact ⟨_, (t_0), reS, H', ⟨by first | omega | exact Nat.le_refl _⟩, ⟨kB B_0⟩, ⟨hU HB.out⟩⟩
   ·replace c7 := Bool.eq_false_iff.mpr c7
    subst c7
    have H1 : (Yz.j0 k true a0_0 a0_1 a0_2 a0_3 a0_4 a0_5 a0_6 a0_7 a0_8 a0_9 a0_10 a0_11 a0_12) = some r := by rw [if_neg (show ¬ (false = true) by decide)] at H; exact H
    clear H
    have H := H1
    clear H1
    have H' := Y0.mk H
    clear H
    have z_4 := Y1 B_0.out
    have f_0 := Y3 B_0.out
    go_wp2_with (first | ((with_reducible refine Y8 (f := 93) rfl ?_); refine goesA (some 5) Try.func93 #[.agg #[.int .i64 a0_0, .int .i64 a0_1]] ?_; (with_reducible refine (Y1r.calls a0_0 a0_1 true _ A4.out).mono ?_); rintro e w16 ⟨rfl, hb⟩; refine ⟨_, rfl, ?_⟩; replace B_0 := Y0.mk (Y6 (bU B_0.out) hb); replace HB := Y0.mk (Y4 (hU HB.out) hb); (try clear hb); (try clear hb2); (try clear hk); (try clear hi); have z_1 := Y1 B_0.out; have f_3 := Y3 B_0.out) | (go_at_call 93; (with_reducible refine (Y1r.calls a0_3 a0_4 false _ A6.out).mono ?_); rintro e w18 ⟨rfl, hb⟩; replace B_0 := Y0.mk (Y6 (bU B_0.out) hb); replace HB := Y0.mk (Y4 (hU HB.out) hb); (try clear hb); (try clear hb2); (try clear hk); (try clear hi)))
    go_meet
    case rel => exact ⟨_, (true), reS, H', ⟨by first | omega | exact Nat.le_refl _⟩, ⟨kB B_0⟩, ⟨hU HB.out⟩⟩
  ·replace c5 := Bool.eq_false_iff.mpr c5
   subst c5
   have H1 : (Yz.j0 k true a0_0 a0_1 a0_2 a0_3 a0_4 a0_5 a0_6 a0_7 a0_8 a0_9 a0_10 a0_11 a0_12) = some r := by rw [if_neg (show ¬ (false = true) by decide)] at H; exact H
   clear H
   have H := H1
   clear H1
   have H' := Y0.mk H
   clear H
   have z_2 := Y1 B_0.out
   have f_5 := Y3 B_0.out
   go_wp2_with (first | ((with_reducible refine Y8 (f := 93) rfl ?_); refine goesA (some 5) Try.func93 #[.agg #[.int .i64 a0_0, .int .i64 a0_1]] ?_; (with_reducible refine (Y1r.calls a0_0 a0_1 false _ A4.out).mono ?_); rintro e w20 ⟨rfl, hb⟩; refine ⟨_, rfl, ?_⟩; replace B_0 := Y0.mk (Y6 (bU B_0.out) hb); replace HB := Y0.mk (Y4 (hU HB.out) hb); (try clear hb); (try clear hb2); (try clear hk); (try clear hi)))
   go_meet
   case rel => exact ⟨_, (true), reS, H', ⟨by first | omega | exact Nat.le_refl _⟩, ⟨kB B_0⟩, ⟨hU HB.out⟩⟩
 case rest =>
  clear HC2
  try clear p2
  try clear c5
  try clear c7
  try clear c9
  try clear z_3
  try clear z_1x
  try clear z_m
  try clear z_1r
  try clear z_n
  try clear z_q
  try clear z_26
  try clear z_1m
  try clear z_s
  try clear z_7
  try clear z_1b
  try clear z_16
  try clear z_10
  try clear z_5
  try clear z_1e
  try clear z_23
  try clear z_1i
  try clear z_21
  try clear z_i
  try clear z_b
  try clear z_h
  try clear z_k
  try clear z_1w
  try clear z_1n
  try clear z_u
  try clear z_j
  try clear z_4
  try clear z_1c
  try clear z_e
  try clear z_a
  try clear z_1q
  try clear z_1k
  try clear z_13
  try clear z_24
  try clear z_x
  try clear z_1a
  try clear z_1z
  try clear z_1o
  try clear z_w
  try clear z_1
  try clear z_17
  try clear z_v
  try clear z_1s
  try clear z_r
  try clear z_1f
  try clear z_y
  try clear z_1d
  try clear z_1g
  try clear z_9
  try clear z_f
  try clear z_1l
  try clear z_l
  try clear z_2
  try clear z_1y
  try clear z_12
  try clear z_8
  try clear z_20
  try clear z_z
  try clear z_d
  try clear z_1j
  try clear z_t
  try clear z_11
  try clear z_14
  try clear z_25
  try clear z_27
  try clear z_0
  try clear z_18
  try clear z_1u
  try clear z_c
  try clear z_19
  try clear z_g
  try clear z_1h
  try clear z_22
  try clear z_1p
  try clear z_6
  try clear z_p
  try clear z_o
  try clear z_15
  try clear f_2
  try clear f_7
  try clear f_16
  try clear f_13
  try clear f_a
  try clear f_s
  try clear f_j
  try clear f_l
  try clear f_26
  try clear f_1y
  try clear f_1z
  try clear f_1r
  try clear f_b
  try clear f_4
  try clear f_r
  try clear f_19
  try clear f_1q
  try clear f_1l
  try clear f_23
  try clear f_1a
  try clear f_u
  try clear f_k
  try clear f_c
  try clear f_20
  try clear f_1m
  try clear f_24
  try clear f_0
  try clear f_1x
  try clear f_8
  try clear f_1i
  try clear f_g
  try clear f_1k
  try clear f_1c
  try clear f_v
  try clear f_p
  try clear f_1u
  try clear f_1o
  try clear f_21
  try clear f_25
  try clear f_3
  try clear f_h
  try clear f_w
  try clear f_i
  try clear f_6
  try clear f_17
  try clear f_x
  try clear f_1e
  try clear f_1f
  try clear f_11
  try clear f_27
  try clear f_22
  try clear f_1w
  try clear f_5
  try clear f_o
  try clear f_14
  try clear f_d
  try clear f_f
  try clear f_12
  try clear f_y
  try clear f_18
  try clear f_m
  try clear f_1h
  try clear f_t
  try clear f_q
  try clear f_15
  try clear f_1
  try clear f_1b
  try clear f_1n
  try clear f_z
  try clear f_9
  try clear f_1j
  try clear f_1g
  try clear f_10
  try clear f_1p
  try clear f_1t
  try clear f_1s
  try clear f_1v
  try clear f_1d
  obtain ⟨kq, x19_1, rfl, HA, HJ1, B_0, HB⟩ := hcut
  cases kq with
  | zero => exact absurd HA.out (by simp [Yz.j0])
  | succ kj1 =>
   have H := HA.out
   clear HA
   simp only [Yz.j0] at H
   by_cases c21 : x19_1 = true
   ·subst c21
    have H1 : (some 43) = some r := by rw [if_pos rfl] at H; exact H
    clear H
    have H := H1
    clear H1
    obtain rfl := Option.some.inj H
    go_wp2
    go_ret
    exact ⟨reT, hU HB.out⟩
   ·replace c21 := Bool.eq_false_iff.mpr c21
    subst c21
    rw [if_neg (show ¬ (false = true) by decide)] at H
    have HC22 := Y0.mk H
    clear H
    go_upto_region 3 with (fail)
    go_cut [27] (fun v27 wc => ∃ (kq : Nat) (x27_21 : Bool), v27 = .bool x27_21 ∧ Y0 (Yz.j1 kq x27_21 a0_0 a0_1 a0_2 a0_3 a0_4 a0_5 a0_6 a0_7 a0_8 a0_9 a0_10 a0_11 a0_12 = some r) ∧ Y0 (kq ≤ kj1) ∧ Y0 (wc.heap[g_0]? = some (.cells #[.int .i64 a0_0, .int .i64 a0_1, .int .i64 a0_2, .int .i64 a0_3, .int .i64 a0_4, .bool a0_5, .int .i64 a0_6, .int .i64 a0_7, .int .i64 a0_8, .int .i64 a0_9, .int .i64 a0_10, .int .i64 a0_11, .int .i64 a0_12] 30 (0, 0))) ∧ Y0 (Below w.heap.size w wc))
    case first =>
     have H := HC22.out
     clear HC22
     by_cases c23 : a0_2 < 0
     ·rw [if_pos c23] at H
      have c23b0 := decide_eq_true c23
      clear c23
      (first | rw [c23b0] | (simp only [i64_w, i32_w]; rw [c23b0]) | skip)
      have H' := Y0.mk H
      clear H
      have z_1t := Y1 B_0.out
      have f_n := Y3 B_0.out
      go_wp2
      go_meet
      case rel => exact ⟨_, (true), reS, H', ⟨by have := HJ1.out; first | omega | exact Nat.le_refl _⟩, ⟨kB B_0⟩, ⟨hU HB.out⟩⟩
     ·rw [if_neg c23] at H
      have c23b0 := decide_eq_false c23
      clear c23
      (first | rw [c23b0] | (simp only [i64_w, i32_w]; rw [c23b0]) | skip)
      have H' := Y0.mk H
      clear H
      have z_1v := Y1 B_0.out
      have f_e := Y3 B_0.out
      go_wp2
      go_meet
      case rel => exact ⟨_, (decide (a0_2 ≥ 12)), reS, H', ⟨by have := HJ1.out; first | omega | exact Nat.le_refl _⟩, ⟨kB B_0⟩, ⟨hU HB.out⟩⟩
    case rest =>
     clear HC22
     try clear c2
     try clear p2
     try clear c5
     try clear c7
     try clear c9
     try clear c21
     try clear c23
     try clear c23b0
     try clear z_3
     try clear z_1x
     try clear z_m
     try clear z_1r
     try clear z_n
     try clear z_q
     try clear z_26
     try clear z_1m
     try clear z_s
     try clear z_7
     try clear z_1b
     try clear z_16
     try clear z_10
     try clear z_5
     try clear z_1e
     try clear z_23
     try clear z_1i
     try clear z_21
     try clear z_i
     try clear z_b
     try clear z_h
     try clear z_k
     try clear z_1w
     try clear z_1n
     try clear z_u
     try clear z_j
     try clear z_4
     try clear z_1c
     try clear z_e
     try clear z_a
     try clear z_1q
     try clear z_1k
     try clear z_13
     try clear z_24
     try clear z_x
     try clear z_1a
     try clear z_1z
     try clear z_1o
     try clear z_w
     try clear z_1
     try clear z_17
     try clear z_v
     try clear z_1s
     try clear z_r
     try clear z_1f
     try clear z_y
     try clear z_1d
     try clear z_1g
     try clear z_9
     try clear z_f
     try clear z_1l
     try clear z_l
     try clear z_2
     try clear z_1y
     try clear z_12
     try clear z_8
     try clear z_20
     try clear z_z
     try clear z_d
     try clear z_1j
     try clear z_t
     try clear z_11
     try clear z_14
     try clear z_25
     try clear z_27
     try clear z_1t
     try clear z_2m
     try clear z_2c
     try clear z_2s
     try clear z_28
     try clear z_2q
     try clear z_2l
     try clear z_2k
     try clear z_2p
     try clear z_2e
     try clear z_2i
     try clear z_2g
     try clear z_2r
     try clear z_1v
     try clear z_2n
     try clear z_2x
     try clear z_2w
     try clear z_2h
     try clear z_2f
     try clear z_2j
     try clear z_2o
     try clear z_2v
     try clear z_2d
     try clear z_2u
     try clear z_2a
     try clear z_2y
     try clear z_0
     try clear z_18
     try clear z_1u
     try clear z_c
     try clear z_19
     try clear z_g
     try clear z_1h
     try clear z_22
     try clear z_1p
     try clear z_6
     try clear z_p
     try clear z_o
     try clear z_15
     try clear f_2
     try clear f_7
     try clear f_16
     try clear f_13
     try clear f_a
     try clear f_s
     try clear f_j
     try clear f_l
     try clear f_26
     try clear f_1y
     try clear f_1z
     try clear f_1r
     try clear f_b
     try clear f_4
     try clear f_r
     try clear f_19
     try clear f_1q
     try clear f_1l
     try clear f_23
     try clear f_1a
     try clear f_u
     try clear f_k
     try clear f_c
     try clear f_20
     try clear f_1m
     try clear f_24
     try clear f_0
     try clear f_1x
     try clear f_8
     try clear f_1i
     try clear f_g
     try clear f_1k
     try clear f_1c
     try clear f_v
     try clear f_p
     try clear f_1u
     try clear f_1o
     try clear f_21
     try clear f_25
     try clear f_3
     try clear f_h
     try clear f_w
     try clear f_i
     try clear f_6
     try clear f_17
     try clear f_x
     try clear f_1e
     try clear f_1f
     try clear f_11
     try clear f_27
     try clear f_22
     try clear f_1w
     try clear f_5
     try clear f_o
     try clear f_14
     try clear f_d
     try clear f_f
     try clear f_12
     try clear f_y
     try clear f_18
     try clear f_m
     try clear f_1h
     try clear f_t
     try clear f_q
     try clear f_15
     try clear f_n
     try clear f_2k
     try clear f_2p
     try clear f_2l
     try clear f_2a
     try clear f_29
     try clear f_2y
     try clear f_2n
     try clear f_2g
     try clear f_2q
     try clear f_2f
     try clear f_2m
     try clear f_2i
     try clear f_e
     try clear f_2j
     try clear f_2b
     try clear f_2x
     try clear f_2e
     try clear f_2c
     try clear f_2d
     try clear f_2v
     try clear f_2o
     try clear f_28
     try clear f_2w
     try clear f_2s
     try clear f_2t
     try clear f_1
     try clear f_1b
     try clear f_1n
     try clear f_z
     try clear f_9
     try clear f_1j
     try clear f_1g
     try clear f_10
     try clear f_1p
     try clear f_1t
     try clear f_1s
     try clear f_1v
     try clear f_1d
     try clear p2
     obtain ⟨kq, x27_21, rfl, HA, HJ21, B_0, HB⟩ := hcut
     cases kq with
     | zero => exact absurd HA.out (by simp [Yz.j1])
     | succ kj21 =>
      have H := HA.out
      clear HA
      simp only [Yz.j1] at H
      by_cases c26 : x27_21 = true
      ·subst c26
       have H1 : (some 33) = some r := by rw [if_pos rfl] at H; exact H
       clear H
       have H := H1
       clear H1
       obtain rfl := Option.some.inj H
       go_wp2
       go_ret
       exact ⟨reT, hU HB.out⟩
      ·replace c26 := Bool.eq_false_iff.mpr c26
       subst c26
       rw [if_neg (show ¬ (false = true) by decide)] at H
       by_cases c27 : a0_5 = true
       ·subst c27
        rw [if_pos rfl] at H
        by_cases c28 : (!(a0_6 == 0) || (!(a0_7 == 0) || (!(a0_8 == 0) || (!(a0_9 == 0) || (!(a0_10 == 0) || (!(a0_11 == 0) || (!(a0_12 == 0)))))))) = true
        ·rw [if_pos c28] at H
         have c28b0 : (!(a0_6 == 0) || (!(a0_7 == 0) || (!(a0_8 == 0) || (!(a0_9 == 0) || (!(a0_10 == 0) || (!(a0_11 == 0) || (!(a0_12 == 0)))))))) = true := c28
         clear c28
         obtain rfl := Option.some.inj H
         have z_2t := Y1 B_0.out
         have f_2u := Y3 B_0.out
         go_wp2
         go_ret
         exact ⟨reT, hU HB.out⟩
        ·rw [if_neg c28] at H
         have c28b0 : (!(a0_6 == 0) || (!(a0_7 == 0) || (!(a0_8 == 0) || (!(a0_9 == 0) || (!(a0_10 == 0) || (!(a0_11 == 0) || (!(a0_12 == 0)))))))) = false := by simpa using c28
         clear c28
         obtain rfl := Option.some.inj H
         have z_2b := Y1 B_0.out
         have f_2h := Y3 B_0.out
         go_wp2
         go_ret
         exact ⟨reT, hU HB.out⟩
       ·replace c27 := Bool.eq_false_iff.mpr c27
        subst c27
        have H1 : ((YF.f kj21 a0_6 a0_7 a0_8 a0_9 a0_10 a0_11 a0_12).bind fun t_1 => (some t_1)) = some r := by rw [if_neg (show ¬ (false = true) by decide)] at H; exact H
        clear H
        have H := H1
        clear H1
        obtain ⟨t_1, A310, H⟩ := bS H
        replace H : (some t_1) = some r := H
        have A31 := Y0.mk A310
        clear A310
        obtain rfl := Option.some.inj H
        have z_29 := Y1 B_0.out
        have f_2r := Y3 B_0.out
        go_wp2_with (first | ((with_reducible refine Y8 (f := 77) rfl ?_); refine goesA (some 33) Try.func77 #[.agg #[.int .i64 a0_6, .int .i64 a0_7, .int .i64 a0_8, .int .i64 a0_9, .int .i64 a0_10, .int .i64 a0_11, .int .i64 a0_12]] ?_; (with_reducible refine (YF.calls kj21 a0_6 a0_7 a0_8 a0_9 a0_10 a0_11 a0_12 t_1 _ A31.out).mono ?_); rintro e w33 ⟨rfl, hb⟩; refine ⟨_, rfl, ?_⟩; replace B_0 := Y0.mk (Y6 (bU B_0.out) hb); replace HB := Y0.mk (Y4 (hU HB.out) hb); (try clear hb); (try clear hb2); (try clear hk); (try clear hi)))
        go_ret
        exact ⟨reT, hU HB.out⟩
end Go.Proofs.Yteopkkoblbmggaa.P
end
section
namespace Go.Proofs.Yteopkkoblbmggaa.P
open Go.RowKit Go.Proofs.YteopkkoblbmggaaW.PrintWords Go.Proofs.YteopkkoblbmggaaW.PrintLast Go.Proofs.YteopkkoblbmggaaW.PrintMore
attribute [local go_sem] Y11 Y13 Y19 Y1a YR YS Y12 Y14
set_option linter.unusedVariables false
set_option linter.unusedSimpArgs false
mutual
def Y16.j0 : Nat → List Int → Int → Option (List Int)
 | 0, _, _ => none
 | k + 1, x0, x5 => Y16.l0 k x0 x5
def Y16.l0 : Nat → List Int → Int → Option (List Int)
 | 0, _, _ => none
 | k + 1, x0, x5 => if x5 ≥ 128 then (if x0.length < 140737488355328 then (Y16.l0 k (x0 ++ [Go.bits .or .u8 ((x5) % 256) 128]) (x5 / 128)) else (none)) else (if x0.length < 140737488355328 then (some (x0 ++ [(x5) % 256])) else (none))
end
def Y16.f (k : Nat) (l0 : List Int) (a1 : Int) : Option (List Int) := if a1 < 0 then (Y16.j0 k l0 (Go.bits .xor .u64 18446744073709551615 (IntKind.u64.wrap ((IntKind.u64.wrap (a1)) * 2)))) else (Y16.j0 k l0 (IntKind.u64.wrap ((IntKind.u64.wrap (a1)) * 2)))
theorem Y16.mono_l : ∀ k, (∀ y0 y1, LeO (Y16.j0 k y0 y1) (Y16.j0 (k + 1) y0 y1)) ∧ (∀ y0 y1, LeO (Y16.l0 k y0 y1) (Y16.l0 (k + 1) y0 y1))
 | 0 => ⟨fun _ _ r h => by simp [Y16.j0] at h, fun _ _ r h => by simp [Y16.l0] at h⟩
 | k + 1 => by
  obtain ⟨ih0, ih1⟩ := Y16.mono_l k
  refine ⟨?_, ?_⟩
  ·intro y0 y1
   unfold Y16.j0
   repeat' first
   | (with_reducible exact ih0 _ _)
   | (with_reducible exact ih1 _ _)
   | (with_reducible exact LeO.refl _)
   | (with_reducible exact LeO.none _)
   | (with_reducible refine LeO.ite ?_ ?_)
   | (with_reducible refine LeO.bind ?_ (fun _ => ?_))
  ·intro y0 y1
   unfold Y16.l0
   repeat' first
   | (with_reducible exact ih0 _ _)
   | (with_reducible exact ih1 _ _)
   | (with_reducible exact LeO.refl _)
   | (with_reducible exact LeO.none _)
   | (with_reducible refine LeO.ite ?_ ?_)
   | (with_reducible refine LeO.bind ?_ (fun _ => ?_))
theorem Y16.mono : ∀ a0 a1 k, LeO (Y16.f k a0 a1) (Y16.f (k + 1) a0 a1) := by
 intro a0 a1 k
 obtain ⟨ih0, ih1⟩ := Y16.mono_l k
 unfold Y16.f
 repeat' first
   | (with_reducible exact ih0 _ _)
   | (with_reducible exact ih1 _ _)
   | (with_reducible exact LeO.refl _)
   | (with_reducible exact LeO.none _)
   | (with_reducible refine LeO.ite ?_ ?_)
   | (with_reducible refine LeO.bind ?_ (fun _ => ?_))
set_option maxHeartbeats 8000000 in
set_option maxRecDepth 100000 in
theorem Y16.calls (k : Nat) (P0_ : Nat → Prop) (u9000_ : Value) (l0 : List Int) (a1 : Int) (r : List Int) (w0 w : World) (hB : Below w0.heap.size w0 w) (ho0 : Kd.R (Kd.int .u8) 5 w w0.heap.size P0_ u9000_ l0) (h : Y16.f k l0 a1 = some r) :
  Calls Try.prog 144 #[u9000_, .int .i64 a1] w fun e w' => ∃ v0_ : Value, e = .returned (v0_) ∧ Kd.R (Kd.int .u8) 5 w' w0.heap.size (fun k_ => (P0_ k_ ∨ w.heap.size ≤ k_)) v0_ r ∧ Below w0.heap.size w0 w' ∧ Kept w w' (fun k_ => P0_ k_) := by
 have HO0 := Y0.mk (show Kd.R (Kd.int .u8) 5 w w0.heap.size (fun k_ => (P0_ k_ ∨ w.heap.size ≤ k_)) u9000_ l0 from Kd.R_mono ho0 (fun k_ hk => (.inl hk)))
 have HK := Y0.mk (Kept.refl w (fun k_ => P0_ k_))
 have HW0 := Y0.mk hB.size
 have HB := Y0.mk hB
 clear hB
 have H : (if a1 < 0 then (Y16.j0 k l0 (Go.bits .xor .u64 18446744073709551615 (IntKind.u64.wrap ((IntKind.u64.wrap (a1)) * 2)))) else (Y16.j0 k l0 (IntKind.u64.wrap ((IntKind.u64.wrap (a1)) * 2)))) = some r := h
 clear h
 have HC3 := Y0.mk H
 clear H
 go_enter Try.func144, Try.ntmps144
 go_upto_if 10 with (fail)
 go_cut [5] (fun v5 wc => ∃ (kq : Nat) (x5_2 : Int), v5 = .int .u64 x5_2 ∧ Y0 (Y16.j0 kq l0 x5_2 = some r) ∧ Y0 (kq ≤ k) ∧ Y0 (Kd.R (Kd.int .u8) 5 wc w0.heap.size (fun k_ => (P0_ k_ ∨ w.heap.size ≤ k_)) u9000_ l0) ∧ Y0 (Kept w wc (fun k_ => P0_ k_)) ∧ Y0 (Below w0.heap.size w0 wc))
 case first =>
  have H := HC3.out
  clear HC3
  by_cases c4 : a1 < 0
  ·rw [if_pos c4] at H
   have c4b0 := decide_eq_true c4
   clear c4
   (first | rw [c4b0] | (simp only [i64_w, i32_w]; rw [c4b0]) | skip)
   have H' := Y0.mk H
   clear H
   go_wp2
   go_meet
   case rel => exact ⟨_, (Go.bits .xor .u64 18446744073709551615 (IntKind.u64.wrap ((IntKind.u64.wrap (a1)) * 2))), reS, H', ⟨by first | omega | exact Nat.le_refl _⟩, ⟨by (with_reducible repeat (first | apply Kd.R_alloc | apply Kd.R_drewN | apply Kd.R_drew)); exact HO0.out⟩, ⟨by repeat (first | (with_reducible first | exact HK.out | apply Kept.alloc | apply Kept.drewN | apply Kept.drew) | exact HK.out)⟩, ⟨hU HB.out⟩⟩
  ·rw [if_neg c4] at H
   have c4b0 := decide_eq_false c4
   clear c4
   (first | rw [c4b0] | (simp only [i64_w, i32_w]; rw [c4b0]) | skip)
   have H' := Y0.mk H
   clear H
   go_wp2
   go_meet
   case rel => exact ⟨_, (IntKind.u64.wrap ((IntKind.u64.wrap (a1)) * 2)), reS, H', ⟨by first | omega | exact Nat.le_refl _⟩, ⟨by (with_reducible repeat (first | apply Kd.R_alloc | apply Kd.R_drewN | apply Kd.R_drew)); exact HO0.out⟩, ⟨by repeat (first | (with_reducible first | exact HK.out | apply Kept.alloc | apply Kept.drewN | apply Kept.drew) | exact HK.out)⟩, ⟨hU HB.out⟩⟩
 case rest =>
  clear HC3
  try clear c1
  try clear p2
  try clear c4
  try clear c4b0
  obtain ⟨kq, x5_2, rfl, HA, HJ2, HO_0, HK, HB⟩ := hcut
  cases kq with
  | zero => exact absurd HA.out (by simp [Y16.j0])
  | succ kj2 =>
   have H := HA.out
   clear HA
   simp only [Y16.j0] at H
   have H' := Y0.mk H
   clear H
   go_wp2
   go_loopg [0, 5] kj2 (fun kq v0 v5 w' => ∃ (x0_2 : List Int) (x5_2 : Int), v5 = .int .u64 x5_2 ∧ Y0 (Y16.l0 kq x0_2 x5_2 = some r) ∧ Y0 (kq ≤ kj2) ∧ Y0 (Kd.R (Kd.int .u8) 5 w' w0.heap.size (fun k_ => (P0_ k_ ∨ w.heap.size ≤ k_)) v0 x0_2) ∧ Y0 (Kept w w' (fun k_ => P0_ k_)) ∧ Y0 (Below w0.heap.size w0 w'))
   case atStart => exact ⟨(l0), (x5_2), reS, H', ⟨Nat.le_refl _⟩, ⟨by (with_reducible repeat (first | apply Kd.R_alloc | apply Kd.R_drewN | apply Kd.R_drew)); exact HO_0.out⟩, ⟨by repeat (first | (with_reducible first | exact HK.out | apply Kept.alloc | apply Kept.drewN | apply Kept.drew) | exact HK.out)⟩, ⟨hU HB.out⟩⟩
   case round =>
    clear H'
    try clear c1
    try clear p2
    try clear c4
    try clear c4b0
    try clear p2
    obtain ⟨x0_2, x5_2, rfl, HA, HK2, HO_0, HK, HB⟩ := hrel
    cases gk with
    | zero => exact absurd HA.out (by simp [Y16.l0])
    | succ k2 =>
     have H := HA.out
     clear HA
     simp only [Y16.l0] at H
     by_cases c5 : x5_2 ≥ 128
     ·rw [if_pos c5] at H
      have c5b0 := decide_eq_true c5
      clear c5
      obtain ⟨c6, H⟩ := iS H
      have LMc6 := Y0.mk c6
      clear c6
      obtain ⟨y1024, hy1024⟩ : ∃ y_ : List Int, y_ = (x0_2 ++ [Go.bits .or .u8 ((x5_2) % 256) 128]) := ⟨_, rfl⟩
      replace H : (Y16.l0 k2 y1024 (x5_2 / 128)) = some r := by first | (rw [hy1024]; with_reducible exact H) | (have H2_ := (Option.bind_some _ _).symm.trans H; rw [hy1024]; with_reducible exact H2_) | (have H2_ := (Option.bind_some _ _).symm.trans H; with_reducible exact H2_) | with_reducible exact H | (rw [hy1024]; exact H) | exact H
      have Ny1024 := Y0.mk hy1024
      clear hy1024
      have H' := Y0.mk H
      clear H
      go_wp2_with (first | ((with_reducible refine Y1h (b := .append) (xs := #[.tmp 15, .tmp 19]) rfl ?_); at_builtin; refine Kd.R_append (Kd.int .u8) (w0 := w0) w0.heap.size rfl (.tmp 15) (.tmp 19) 60 5 (.int .u8 0) 1 rfl Try.underlying60 info5 rfl (by decide) (by omega) u0 x0_2 (Go.bits .or .u8 ((x5_2) % 256) 128) [.int .u8 (Go.bits .or .u8 ((x5_2) % 256) 128)] (fun k_ => (P0_ k_ ∨ w.heap.size ≤ k_)) (fun _ => False) rfl rfl ?aP (fun _ hk => hk.elim) ?aF ?aO ?aB ?aS ?aL ?_; (case aP => exact rfl); (case aB => exact (hU HB.out)); (case aF => exact (fun k_ hk => (.inr (Nat.le_trans (by first | exact HK.out.1 | exact (show Kept w _ (fun k_ => P0_ k_) from by repeat (first | (with_reducible first | exact HK.out | apply Kept.alloc | apply Kept.drewN | apply Kept.drew) | exact HK.out)).1) hk)))); (case aO => exact (Kd.rU HO_0.out)); (case aS => exact (Yi (hU HB.out))); (case aL => have := LMc6.out; omega); intro v_1 w7 ho hb hg hat; rw [← Ny1024.out] at ho; have n0_ := Y0.mk (hb); have n1_ := Y0.mk (Kept.of_grown (S := (fun k_ => P0_ k_)) hg (by repeat (first | (with_reducible first | exact HK.out | apply Kept.alloc | apply Kept.drewN | apply Kept.drew) | exact HK.out)) (fun k_ e_ => (HO_0.out.1 k_ e_))); have n2_ := Y0.mk (ho); clear HB; clear HK; clear HO_0; have HB := n0_; have HK := n1_; have O_3 := n2_; clear n0_ n1_ n2_; clear ho hb hg hat))
      go_roundg k2
      case measure => have := HJ2.out; have := HK2.out; omega
      case rel => exact ⟨(y1024), (x5_2 / 128), reS, H', ⟨by have := HJ2.out; have := HK2.out; omega⟩, ⟨by (with_reducible repeat (first | apply Kd.R_alloc | apply Kd.R_drewN | apply Kd.R_drew)); exact O_3.out⟩, ⟨by repeat (first | (with_reducible first | exact HK.out | apply Kept.alloc | apply Kept.drewN | apply Kept.drew) | exact HK.out)⟩, ⟨hU HB.out⟩⟩
     ·rw [if_neg c5] at H
      have c5b0 := decide_eq_false c5
      clear c5
      by_cases c8 : x0_2.length < 140737488355328
      rotate_left
      ·rw [if_neg c8] at H
       exact absurd H (by simp)
      rw [if_pos c8] at H
      have LMc8 := Y0.mk c8
      clear c8
      obtain ⟨y1027, hy1027⟩ : ∃ y_ : List Int, y_ = (x0_2 ++ [(x5_2) % 256]) := ⟨_, rfl⟩
      replace H : (some y1027) = some r := by first | (rw [hy1027]; with_reducible exact H) | (have H2_ := (Option.bind_some _ _).symm.trans H; rw [hy1027]; with_reducible exact H2_) | (have H2_ := (Option.bind_some _ _).symm.trans H; with_reducible exact H2_) | with_reducible exact H | (rw [hy1027]; exact H) | exact H
      have Ny1027 := Y0.mk hy1027
      clear hy1027
      obtain rfl := Option.some.inj H
      go_wp2_with (first | ((with_reducible refine Y1h (b := .append) (xs := #[.tmp 23, .tmp 26]) rfl ?_); at_builtin; refine Kd.R_append (Kd.int .u8) (w0 := w0) w0.heap.size rfl (.tmp 23) (.tmp 26) 60 5 (.int .u8 0) 1 rfl Try.underlying60 info5 rfl (by decide) (by omega) u0 x0_2 ((x5_2) % 256) [.int .u8 ((x5_2) % 256)] (fun k_ => (P0_ k_ ∨ w.heap.size ≤ k_)) (fun _ => False) rfl rfl ?aP (fun _ hk => hk.elim) ?aF ?aO ?aB ?aS ?aL ?_; (case aP => exact rfl); (case aB => exact (hU HB.out)); (case aF => exact (fun k_ hk => (.inr (Nat.le_trans (by first | exact HK.out.1 | exact (show Kept w _ (fun k_ => P0_ k_) from by repeat (first | (with_reducible first | exact HK.out | apply Kept.alloc | apply Kept.drewN | apply Kept.drew) | exact HK.out)).1) hk)))); (case aO => exact (Kd.rU HO_0.out)); (case aS => exact (Yi (hU HB.out))); (case aL => have := LMc8.out; omega); intro v_2 w9 ho hb hg hat; rw [← Ny1027.out] at ho; have n0_ := Y0.mk (hb); have n1_ := Y0.mk (Kept.of_grown (S := (fun k_ => P0_ k_)) hg (by repeat (first | (with_reducible first | exact HK.out | apply Kept.alloc | apply Kept.drewN | apply Kept.drew) | exact HK.out)) (fun k_ e_ => (HO_0.out.1 k_ e_))); have n2_ := Y0.mk (ho); clear HB; clear HK; clear HO_0; have HB := n0_; have HK := n1_; have O_2 := n2_; clear n0_ n1_ n2_; clear ho hb hg hat))
      go_ret
      exact ⟨_, reT, by (with_reducible repeat (first | apply Kd.R_alloc | apply Kd.R_drewN | apply Kd.R_drew)); exact O_2.out, hU HB.out, by repeat (first | (with_reducible first | exact HK.out | apply Kept.alloc | apply Kept.drewN | apply Kept.drew) | exact HK.out)⟩
def Y23.f (l0 : List Int) (a1 : Int) : Option (List Int) := if 0 ≤ (wrap64 ((l0.length : Int) + a1)) then (if (wrap64 ((l0.length : Int) + a1) : Int).toNat ≤ 281474976710656 then ((some (([] : List Int) : List Int)).bind fun y1030 => (if y1030.length + l0.length < 140737488355328 then (some (y1030 ++ l0)) else (none))) else (none)) else (none)
set_option maxHeartbeats 8000000 in
set_option maxRecDepth 100000 in
theorem Y23.calls (A0 : Option Addr) (c0 : Nat) (l0 : List Int) (a1 : Int) (r : List Int) (w : World) (hr0 : Kd.C (Kd.int .u8) w A0 l0.length l0) (hc0 : l0.length ≤ c0) (h : Y23.f l0 a1 = some r) :
  Calls Try.prog 145 #[.slice A0 l0.length c0, .int .i64 a1] w fun e w' => ∃ v0_ : Value, e = .returned (v0_) ∧ Kd.R (Kd.int .u8) 5 w' w.heap.size (fun _ => True) v0_ r ∧ Below w.heap.size w w' := by
 have HR0 := Y0.mk hr0
 have HC0 := Y0.mk hc0
 clear hr0 hc0
 have HB := Y0.mk (Below.refl w.heap.size w)
 have H : (if 0 ≤ (wrap64 ((l0.length : Int) + a1)) then (if (wrap64 ((l0.length : Int) + a1) : Int).toNat ≤ 281474976710656 then ((some (([] : List Int) : List Int)).bind fun y1030 => (if y1030.length + l0.length < 140737488355328 then (some (y1030 ++ l0)) else (none))) else (none)) else (none)) = some r := h
 clear h
 obtain ⟨ji3, hji3⟩ : ∃ j_ : Int, (wrap64 ((l0.length : Int) + a1)) = j_ := ⟨_, rfl⟩
 replace H : (if 0 ≤ (ji3) then (if (ji3 : Int).toNat ≤ 281474976710656 then ((some (([] : List Int) : List Int)).bind fun y1030 => (if y1030.length + l0.length < 140737488355328 then (some (y1030 ++ l0)) else (none))) else (none)) else (none)) = some r := by first | (rw [hji3] at H; exact H) | (simp only [hji3] at H ⊢; exact H)
 have hji3w : (IntKind.i64.wrap ((l0.length : Int) + a1)) = ji3 := (i64_w _).trans hji3
 by_cases c4 : 0 ≤ (ji3)
 rotate_left
 ·rw [if_neg c4] at H
  exact absurd H (by simp)
 rw [if_pos c4] at H
 have c4b0 := eq_true c4
 have c4b1 := decide_eq_true c4
 clear c4
 obtain ⟨c5, H⟩ := iS H
 have c5b0 := eq_true c5
 have c5b1 := decide_eq_true c5
 clear c5
 obtain ⟨y1030, hy1030⟩ : ∃ y_ : List Int, y_ = (([] : List Int)) := ⟨_, rfl⟩
 replace H : (if y1030.length + l0.length < 140737488355328 then (some (y1030 ++ l0)) else (none)) = some r := by first | (rw [hy1030]; with_reducible exact H) | (have H2_ := (Option.bind_some _ _).symm.trans H; rw [hy1030]; with_reducible exact H2_) | (have H2_ := (Option.bind_some _ _).symm.trans H; with_reducible exact H2_) | with_reducible exact H | (rw [hy1030]; exact H) | exact H
 have Ny1030 := Y0.mk hy1030
 clear hy1030
 obtain ⟨c6, H⟩ := iS H
 have LMc6 := Y0.mk c6
 clear c6
 obtain ⟨y1033, hy1033⟩ : ∃ y_ : List Int, y_ = (y1030 ++ l0) := ⟨_, rfl⟩
 replace H : (some y1033) = some r := by first | (rw [hy1033]; with_reducible exact H) | (have H2_ := (Option.bind_some _ _).symm.trans H; rw [hy1033]; with_reducible exact H2_) | (have H2_ := (Option.bind_some _ _).symm.trans H; with_reducible exact H2_) | with_reducible exact H | (rw [hy1033]; exact H) | exact H
 have Ny1033 := Y0.mk hy1033
 clear hy1033
 obtain rfl := Option.some.inj H
 go_enter Try.func145, Try.ntmps145
 go_wp2_with (first | ((with_reducible refine Yl (N := 10) rfl ?_); refine Kd.R_makecap (Kd.int .u8) _ 5 rfl (N := 10) rfl 60 _ _ rfl ji3 rfl rfl Try.underlying60 (.int .u8 0) 1 info5 rfl (by decide) (by omega) 0 (ok := fun _ => True) (okp := fun _ => True) rfl (fun _ hk => hk) trivial (of_decide_eq_true (by first | (with_reducible assumption) | assumption)) (Nat.le_trans (Nat.mul_le_mul_right _ (of_decide_eq_true (by first | (with_reducible assumption) | assumption) : ji3.toNat ≤ 281474976710656)) (by omega)) (Below.refl _ _) (Nat.le_refl _) ?_; intro v_0 w7 ho8 hb hg_ hnew_; clear hg_ hnew_; (first | rw [← Ny1030.out] at ho8 | (simp only [Int.reduceToNat] at ho8; rw [← Ny1030.out] at ho8)); have n0_ := Y0.mk (Kd.R_lower ho8 (Yi (hU HB.out))); have n1_ := Y0.mk (Y4 (hU HB.out) hb); clear HB; have O_1 := n0_; have HB := n1_; clear n0_ n1_; clear hb ho8) | ((with_reducible refine Y1h (b := .append) (xs := #[.tmp 11, .tmp 12]) rfl ?_); at_builtin; refine Kd.R_append_rows (Kd.int .u8) (w0 := w) w.heap.size rfl (.tmp 11) (.tmp 12) 60 5 (.int .u8 0) 1 rfl Try.underlying60 info5 rfl (by decide) (by omega) v_0 y1030 l0 _ _ _ (fun _ => True) (fun _ => False) rfl rfl ?aO ?aR (fun _ _ h => h) (fun _ h => h.elim) ?aF ?aB ?aS ?aL ?_; (case aR => repeat (first | exact (Kd.C_below HR0.out HB.out) | (with_reducible refine Kd.C_alloc ?_ _) | (with_reducible refine Kd.C_drewN ?_ _) | (with_reducible refine Kd.C_drew ?_))); (case aB => exact (hU HB.out)); (case aF => exact (fun _ _ => trivial)); (case aO => exact (Kd.rU O_1.out)); (case aS => exact (Yi (hU HB.out))); (case aL => have := LMc6.out; omega); intro v_3 w9 ho hb hg hat; rw [← Ny1033.out] at ho; have n0_ := Y0.mk (hb); have n1_ := Y0.mk (ho); clear HB; clear O_1; have HB := n0_; have O_5 := n1_; clear n0_ n1_; clear ho hb hg hat))
 go_ret
 exact ⟨_, by first | rfl | (simp [Y1f, Y1g] <;> rfl) | (simp only [← hji3]; first | rfl | (simp [Y1f, Y1g] <;> rfl)) | (simp [*, Y1f, Y1g] <;> rfl), by (with_reducible repeat (first | apply Kd.R_alloc | apply Kd.R_drewN | apply Kd.R_drew)); exact O_5.out, hU HB.out⟩
def Y1k.f (k : Nat) (l0 : List Int) (a1 : Int) : Option (List Int) := (Y23.f l0 10).bind fun t_0 => ((Y16.f k t_0 a1).bind fun t_1 => (some t_1))
theorem Y1k.mono : ∀ a0 a1 k, LeO (Y1k.f k a0 a1) (Y1k.f (k + 1) a0 a1) := by
 intro a0 a1 k
 unfold Y1k.f
 repeat' first
   | (with_reducible exact Y16.mono _ _ _)
   | (with_reducible exact LeO.refl _)
   | (with_reducible exact LeO.none _)
   | (with_reducible refine LeO.ite ?_ ?_)
   | (with_reducible refine LeO.bind ?_ (fun _ => ?_))
set_option maxHeartbeats 8000000 in
set_option maxRecDepth 100000 in
theorem Y1k.calls (k : Nat) (A0 : Option Addr) (c0 : Nat) (l0 : List Int) (a1 : Int) (r : List Int) (w : World) (hr0 : Kd.C (Kd.int .u8) w A0 l0.length l0) (hc0 : l0.length ≤ c0) (h : Y1k.f k l0 a1 = some r) :
  Calls Try.prog 110 #[.slice A0 l0.length c0, .int .i64 a1] w fun e w' => ∃ v0_ : Value, e = .returned (v0_) ∧ Kd.R (Kd.int .u8) 5 w' w.heap.size (fun _ => True) v0_ r ∧ Below w.heap.size w w' := by
 have HR0 := Y0.mk hr0
 have HC0 := Y0.mk hc0
 clear hr0 hc0
 have HB := Y0.mk (Below.refl w.heap.size w)
 have H : ((Y23.f l0 10).bind fun t_0 => ((Y16.f k t_0 a1).bind fun t_1 => (some t_1))) = some r := h
 clear h
 obtain ⟨t_0, A30, H⟩ := bS H
 replace H : ((Y16.f k t_0 a1).bind fun t_1 => (some t_1)) = some r := H
 have A3 := Y0.mk A30
 clear A30
 obtain ⟨t_1, A40, H⟩ := bS H
 replace H : (some t_1) = some r := H
 have A4 := Y0.mk A40
 clear A40
 obtain rfl := Option.some.inj H
 go_enter Try.func110, Try.ntmps110
 go_wp2_with (first | ((with_reducible refine Y8 (f := 145) rfl ?_); refine goesA (some 6) Try.func145 #[.slice A0 l0.length c0, .int .i64 10] ?_; (with_reducible refine (Y23.calls _ _ l0 10 t_0 _ ?side1 ?side2 A3.out).mono ?_); (case side1 => repeat (first | exact HR0.out | (with_reducible refine Kd.C_alloc ?_ _) | (with_reducible refine Kd.C_drewN ?_ _) | (with_reducible refine Kd.C_drew ?_))); (case side2 => exact HC0.out); rintro e w5 ⟨v_5, rfl, ho0, hb⟩; refine ⟨_, rfl, ?_⟩; replace O_0 := Y0.mk (Kd.R_lower ho0 (Yi (hU HB.out))); replace HB := Y0.mk (Y4 (hU HB.out) hb); (try clear hb); (try clear hb2); (try clear hk); (try clear hi); (try clear ho0); obtain ⟨Ao6, co6, eo6⟩ := Kd.R_slice O_0.out; subst eo6) | ((with_reducible refine Y8 (f := 144) rfl ?_); refine goesA (some 8) Try.func144 #[.slice Ao6 t_0.length co6, .int .i64 a1] ?_; (with_reducible refine (Y16.calls k (fun k_ => some k_ = (.slice Ao6 t_0.length co6 : Value).ownBlock) (.slice Ao6 t_0.length co6) t_0 a1 t_1 w _ ?side1 ?side2 A4.out).mono ?_); (case side1 => repeat (first | (with_reducible first | exact HB.out | apply YH | apply Y1m | apply YC) | exact HB.out)); (case side2 => exact Kd.R_tight rfl O_0.out); rintro e w7 ⟨v_4, rfl, ho0, hb, hkp⟩; refine ⟨_, rfl, ?_⟩; replace O_4 := Y0.mk (Kd.R_mono (ok' := fun k_ => True) ho0 (fun k_ hk_ => trivial)); replace HB := Y0.mk (hb); (try clear O_0); (try clear hb); (try clear hkp); (try clear ho0)))
 go_ret
 exact ⟨_, reT, by (with_reducible repeat (first | apply Kd.R_alloc | apply Kd.R_drewN | apply Kd.R_drew)); exact O_4.out, hU HB.out⟩
end Go.Proofs.Yteopkkoblbmggaa.P
end

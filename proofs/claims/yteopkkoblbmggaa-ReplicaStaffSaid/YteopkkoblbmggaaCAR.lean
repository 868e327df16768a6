/- Texts of this claim in one: VP29; no condition. -/
import Derived.Test.YteopkkoblbmggaaCAC
import Derived.Test.YteopkkoblbmggaaCAE
import Derived.Test.YteopkkoblbmggaaCAP
import Derived.Test.YteopkkoblbmggaaCAQ
section
namespace Go.Proofs.Yteopkkoblbmggaa.P
open Go.RowKit Go.Proofs.YteopkkoblbmggaaW.PrintWords Go.Proofs.YteopkkoblbmggaaW.PrintLast Go.Proofs.YteopkkoblbmggaaW.PrintMore
attribute [local go_sem] YU YW Y14 Y15 YJ YK YV YX
set_option linter.unusedVariables false
set_option linter.unusedSimpArgs false
mutual
def Y9.j0 : Nat → Bool → Int → List (S30) → Option (Int)
 | 0, _, _, _ => none
 | k + 1, x14, x_1, x_0 => if x14 = true then (some 43) else (if (x_0.length : Int) > 512 then (some 3) else (Y9.l0 k 0 x_1 x_0))
def Y9.l0 : Nat → Int → Int → List (S30) → Option (Int)
 | 0, _, _, _ => none
 | k + 1, x3, x_1, x_0 => if x3 < (x_0.length : Int) then (if 0 ≤ x3 then ((Yi.f k ((Y7 x_0 x3).f0.f0) ((Y7 x_0 x3).f0.f1) ((Y7 x_0 x3).f1) ((Y7 x_0 x3).f2.f0) ((Y7 x_0 x3).f2.f1) ((Y7 x_0 x3).f3) ((Y7 x_0 x3).f4.f0) ((Y7 x_0 x3).f4.f1) ((Y7 x_0 x3).f4.f2) ((Y7 x_0 x3).f4.f3) ((Y7 x_0 x3).f4.f4) ((Y7 x_0 x3).f4.f5) ((Y7 x_0 x3).f4.f6)).bind fun t_0 => (if t_0 = 0 then (Y9.l0 k (wrap64 (x3 + 1)) x_1 x_0) else (some t_0))) else (none)) else (Y9.l1 k 1 x_1 x_0)
def Y9.l1 : Nat → Int → Int → List (S30) → Option (Int)
 | 0, _, _, _ => none
 | k + 1, x5, x_1, x_0 => if x5 < (x_0.length : Int) then (if 0 ≤ (wrap64 (x5 - 1)) then (if (wrap64 (x5 - 1)) < (x_0.length : Int) then (if 0 ≤ x5 then ((YA.f ((Y7 x_0 (wrap64 (x5 - 1))).f0.f0) ((Y7 x_0 (wrap64 (x5 - 1))).f0.f1) ((Y7 x_0 x5).f0.f0) ((Y7 x_0 x5).f0.f1)).bind fun t_1 => (if t_1 = true then (Y9.l1 k (wrap64 (x5 + 1)) x_1 x_0) else (some 5))) else (none)) else (none)) else (none)) else (Y9.l2 k 0 x_1 x_0)
def Y9.l2 : Nat → Int → Int → List (S30) → Option (Int)
 | 0, _, _, _ => none
 | k + 1, x6, x_1, x_0 => if x6 < (x_0.length : Int) then (if 0 ≤ x6 then ((Ym.f k x_0 ((Y7 x_0 x6).f0.f0) ((Y7 x_0 x6).f0.f1) ((Y7 x_0 x6).f1) ((Y7 x_0 x6).f2.f0) ((Y7 x_0 x6).f2.f1) ((Y7 x_0 x6).f3) ((Y7 x_0 x6).f4.f0) ((Y7 x_0 x6).f4.f1) ((Y7 x_0 x6).f4.f2) ((Y7 x_0 x6).f4.f3) ((Y7 x_0 x6).f4.f4) ((Y7 x_0 x6).f4.f5) ((Y7 x_0 x6).f4.f6)).bind fun t_2 => (if t_2 = true then (Y9.l2 k (wrap64 (x6 + 1)) x_1 x_0) else (some 6))) else (none)) else (some 0)
end
def Y9.f (k : Nat) (a0_0 : Int) (l0_1 : List (S30)) : Option (Int) := if a0_0 < 1 then (Y9.j0 k true a0_0 l0_1) else (Y9.j0 k (decide (a0_0 > 64)) a0_0 l0_1)
theorem Y9.mono_l : ∀ k, (∀ y0 y1 y2, LeO (Y9.j0 k y0 y1 y2) (Y9.j0 (k + 1) y0 y1 y2)) ∧ (∀ y0 y1 y2, LeO (Y9.l0 k y0 y1 y2) (Y9.l0 (k + 1) y0 y1 y2)) ∧ (∀ y0 y1 y2, LeO (Y9.l1 k y0 y1 y2) (Y9.l1 (k + 1) y0 y1 y2)) ∧ (∀ y0 y1 y2, LeO (Y9.l2 k y0 y1 y2) (Y9.l2 (k + 1) y0 y1 y2))
 | 0 => ⟨fun _ _ _ r h => by simp [Y9.j0] at h, fun _ _ _ r h => by simp [Y9.l0] at h, fun _ _ _ r h => by simp [Y9.l1] at h, fun _ _ _ r h => by simp [Y9.l2] at h⟩
 | k + 1 => by
  obtain ⟨ih0, ih1, ih2, ih3⟩ := Y9.mono_l k
  refine ⟨?_, ?_, ?_, ?_⟩
  ·intro y0 y1 y2
   unfold Y9.j0
   repeat' first
   | (with_reducible exact ih0 _ _ _)
   | (with_reducible exact ih1 _ _ _)
   | (with_reducible exact ih2 _ _ _)
   | (with_reducible exact ih3 _ _ _)
   | (with_reducible exact Yi.mono _ _ _ _ _ _ _ _ _ _ _ _ _ _)
   | (with_reducible exact Ym.mono _ _ _ _ _ _ _ _ _ _ _ _ _ _ _)
   | (with_reducible exact LeO.refl _)
   | (with_reducible exact LeO.none _)
   | (with_reducible refine LeO.ite ?_ ?_)
   | (with_reducible refine LeO.bind ?_ (fun _ => ?_))
  ·intro y0 y1 y2
   unfold Y9.l0
   repeat' first
   | (with_reducible exact ih0 _ _ _)
   | (with_reducible exact ih1 _ _ _)
   | (with_reducible exact ih2 _ _ _)
   | (with_reducible exact ih3 _ _ _)
   | (with_reducible exact Yi.mono _ _ _ _ _ _ _ _ _ _ _ _ _ _)
   | (with_reducible exact Ym.mono _ _ _ _ _ _ _ _ _ _ _ _ _ _ _)
   | (with_reducible exact LeO.refl _)
   | (with_reducible exact LeO.none _)
   | (with_reducible refine LeO.ite ?_ ?_)
   | (with_reducible refine LeO.bind ?_ (fun _ => ?_))
  ·intro y0 y1 y2
   unfold Y9.l1
   repeat' first
   | (with_reducible exact ih0 _ _ _)
   | (with_reducible exact ih1 _ _ _)
   | (with_reducible exact ih2 _ _ _)
   | (with_reducible exact ih3 _ _ _)
   | (with_reducible exact Yi.mono _ _ _ _ _ _ _ _ _ _ _ _ _ _)
   | (with_reducible exact Ym.mono _ _ _ _ _ _ _ _ _ _ _ _ _ _ _)
   | (with_reducible exact LeO.refl _)
   | (with_reducible exact LeO.none _)
   | (with_reducible refine LeO.ite ?_ ?_)
   | (with_reducible refine LeO.bind ?_ (fun _ => ?_))
  ·intro y0 y1 y2
   unfold Y9.l2
   repeat' first
   | (with_reducible exact ih0 _ _ _)
   | (with_reducible exact ih1 _ _ _)
   | (with_reducible exact ih2 _ _ _)
   | (with_reducible exact ih3 _ _ _)
   | (with_reducible exact Yi.mono _ _ _ _ _ _ _ _ _ _ _ _ _ _)
   | (with_reducible exact Ym.mono _ _ _ _ _ _ _ _ _ _ _ _ _ _ _)
   | (with_reducible exact LeO.refl _)
   | (with_reducible exact LeO.none _)
   | (with_reducible refine LeO.ite ?_ ?_)
   | (with_reducible refine LeO.bind ?_ (fun _ => ?_))
theorem Y9.mono : ∀ a0 a1 k, LeO (Y9.f k a0 a1) (Y9.f (k + 1) a0 a1) := by
 intro a0 a1 k
 obtain ⟨ih0, ih1, ih2, ih3⟩ := Y9.mono_l k
 unfold Y9.f
 repeat' first
   | (with_reducible exact ih0 _ _ _)
   | (with_reducible exact ih1 _ _ _)
   | (with_reducible exact ih2 _ _ _)
   | (with_reducible exact ih3 _ _ _)
   | (with_reducible exact Yi.mono _ _ _ _ _ _ _ _ _ _ _ _ _ _)
   | (with_reducible exact Ym.mono _ _ _ _ _ _ _ _ _ _ _ _ _ _ _)
   | (with_reducible exact LeO.refl _)
   | (with_reducible exact LeO.none _)
   | (with_reducible refine LeO.ite ?_ ?_)
   | (with_reducible refine LeO.bind ?_ (fun _ => ?_))
def Y9.T14 : Bool × List (List Nat × List Nat) := (true, [([], []), ([0], [0]), ([], []), ([2], [2]), ([1, 3], [1, 3]), ([4], [4]), ([5], [5]), ([], []), ([7], [7]), ([], []), ([8, 9], [8, 9]), ([10], [10]), ([11], [11]), ([6, 12], [6, 12]), ([13], [13])])
def Y9.B14 : List Nat := [0, 1, 0, 4, 15, 31, 63, 0, 128, 0, 896, 1920, 3968, 8191, 16383]
theorem Y9.tab14 : rtab .any (opsOf Try.f34 14) = Y9.T14 := by kernel_rfl
theorem Y9.bits14 : Y1z Y9.T14.2 Y9.B14 = true := by kernel_rfl
def Y9.T19 : Bool × List (List Nat × List Nat) := (true, [([], []), ([0], [0]), ([], []), ([2], [2]), ([], []), ([3, 4], [3, 4]), ([5], [5]), ([1, 6], [1, 6]), ([7], [7])])
def Y9.B19 : List Nat := [0, 1, 0, 4, 0, 28, 60, 127, 255]
theorem Y9.tab19 : rtab .any (opsOf Try.f34 19) = Y9.T19 := by kernel_rfl
theorem Y9.bits19 : Y1z Y9.T19.2 Y9.B19 = true := by kernel_rfl
set_option maxHeartbeats 8000000 in
set_option maxRecDepth 100000 in
theorem Y9.calls (k : Nat) (a0_0 : Int) (A0_1 : Option Addr) (c0_1 : Nat) (l0_1 : List (S30)) (r : Int) (w : World) (hr0_1 : Kd.C k30 w A0_1 l0_1.length l0_1) (hc0_1 : l0_1.length ≤ c0_1) (h : Y9.f k a0_0 l0_1 = some r) :
  Calls Try.prog 34 #[.agg #[.int .i64 a0_0, .slice A0_1 l0_1.length c0_1]] w fun e w' => e = .returned (.int .i64 r) ∧ Below w.heap.size w w' := by
 have hu24 := Try.underlying24
 have hu30 := Try.underlying30
 have hu26 := Try.underlying26
 have HR0_1 := Y0.mk hr0_1
 have HC0_1 := Y0.mk hc0_1
 clear hr0_1 hc0_1
 have HB := Y0.mk (Below.refl w.heap.size w)
 have H : (if a0_0 < 1 then (Y9.j0 k true a0_0 l0_1) else (Y9.j0 k (decide (a0_0 > 64)) a0_0 l0_1)) = some r := h
 clear h
 have HC2 := Y0.mk H
 clear H
 go_enter Try.func34, Try.ntmps34
 go_upto_region 1 with (first | ((with_reducible refine Yj (N := 1) rfl ?_); refine Yl ?hg (N := 1) ?hd (cs := #[.int .i64 a0_0, .slice A0_1 l0_1.length c0_1]) (t := 24) ?hr ?_; (case hd => rfl); (case hg => rfl); (case hr => first | (go_simp; done) | (go_simp; rfl)); intro g_0 hg w3 hbox hb; have n0_ := Y0.mk (Y4 (hU HB.out) hb); have n1_ := Y0.mk (hbox); have n2_ := gE hg HB; have n3_ := gE hg HB; clear HB; have HB := n0_; have B_0 := n1_; have W_0 := n2_; have G_0 := n3_; clear n0_ n1_ n2_ n3_; clear hb hbox hg))
 (try simp only [Act.put, List.setIfInBounds_toArray, List.set_cons_zero, List.set_cons_succ])
 go_cut [14] (fun v14 wc => ∃ (kq : Nat) (x14_1 : Bool), v14 = .bool x14_1 ∧ Y0 (Y9.j0 kq x14_1 a0_0 l0_1 = some r) ∧ Y0 (kq ≤ k) ∧ Y0 (wc.heap[g_0]? = some (.cells #[.int .i64 a0_0, (.slice A0_1 l0_1.length c0_1)] 24 (0, 0))) ∧ Y0 (Below w.heap.size w wc))
 case first =>
  have H := HC2.out
  clear HC2
  by_cases c4 : a0_0 < 1
  ·rw [if_pos c4] at H
   have c4b0 := decide_eq_true c4
   clear c4
   (first | rw [c4b0] | (simp only [i64_w, i32_w]; rw [c4b0]) | skip)
   have H' := Y0.mk H
   clear H
   have z_1 := Y1 B_0.out
   have f_1 := Y3 B_0.out
   go_wp2
   go_meet
   case rel => exact ⟨_, (true), reS, H', ⟨by first | omega | exact Nat.le_refl _⟩, ⟨kB B_0⟩, ⟨hU HB.out⟩⟩
  ·rw [if_neg c4] at H
   have c4b0 := decide_eq_false c4
   clear c4
   (first | rw [c4b0] | (simp only [i64_w, i32_w]; rw [c4b0]) | skip)
   have H' := Y0.mk H
   clear H
   have z_0 := Y1 B_0.out
   have f_0 := Y3 B_0.out
   go_wp2
   go_meet
   case rel => exact ⟨_, (decide (a0_0 > 64)), reS, H', ⟨by first | omega | exact Nat.le_refl _⟩, ⟨kB B_0⟩, ⟨hU HB.out⟩⟩
 case rest =>
  clear HC2
  try clear p2
  try clear c3
  try clear c4
  try clear c4b0
  try clear z_1
  try clear z_2
  try clear z_0
  try clear z_4
  try clear f_1
  try clear f_3
  try clear f_0
  try clear f_4
  obtain ⟨kq, x14_1, rfl, HA, HJ1, B_0, HB⟩ := hcut
  cases kq with
  | zero => exact absurd HA.out (by simp [Y9.j0])
  | succ kj1 =>
   have H := HA.out
   clear HA
   simp only [Y9.j0] at H
   by_cases c7 : x14_1 = true
   ·subst c7
    have H1 : (some 43) = some r := by rw [if_pos rfl] at H; exact H
    clear H
    have H := H1
    clear H1
    obtain rfl := Option.some.inj H
    go_wp2
    go_ret
    exact ⟨reT, hU HB.out⟩
   ·replace c7 := Bool.eq_false_iff.mpr c7
    subst c7
    have H1 : (if (l0_1.length : Int) > 512 then (some 3) else (Y9.l0 kj1 0 a0_0 l0_1)) = some r := by rw [if_neg (show ¬ (false = true) by decide)] at H; exact H
    clear H
    have H := H1
    clear H1
    by_cases c8 : (l0_1.length : Int) > 512
    ·rw [if_pos c8] at H
     have c8b0 := decide_eq_true c8
     have c8b1 : decide (512 < l0_1.length) = true := decide_eq_true (by omega)
     clear c8
     obtain rfl := Option.some.inj H
     have z_5 := Y1 B_0.out
     have f_2 := Y3 B_0.out
     go_wp2
     go_ret
     exact ⟨reT, hU HB.out⟩
    ·rw [if_neg c8] at H
     have c8b0 := decide_eq_false c8
     have c8b1 : decide (512 < l0_1.length) = false := decide_eq_false (by omega)
     clear c8
     have H' := Y0.mk H
     clear H
     have z_3 := Y1 B_0.out
     have f_5 := Y3 B_0.out
     go_wp2
     go_loopg [3] kj1 (fun kq v3 w' => ∃ (x3_2 : Int), v3 = .int .i64 x3_2 ∧ Y0 (Y9.l0 kq x3_2 a0_0 l0_1 = some r) ∧ Y0 (kq ≤ kj1) ∧ Y0 (w'.heap[g_0]? = some (.cells #[.int .i64 a0_0, (.slice A0_1 l0_1.length c0_1)] 24 (0, 0))) ∧ Y0 (Below w.heap.size w w'))
     case atStart => exact ⟨(0), reS, H', ⟨Nat.le_refl _⟩, ⟨kB B_0⟩, ⟨hU HB.out⟩⟩
     case round =>
      clear H'
      try clear p2
      try clear c3
      try clear c4
      try clear c4b0
      try clear c7
      try clear c8
      try clear c8b0
      try clear c8b1
      try clear z_3
      try clear z_6
      try clear z_1
      try clear z_2
      try clear z_0
      try clear z_4
      try clear z_5
      try clear z_9
      try clear f_5
      try clear f_7
      try clear f_1
      try clear f_3
      try clear f_0
      try clear f_4
      try clear f_2
      try clear f_a
      try clear p2
      obtain ⟨x3_2, rfl, HA, HK2, B_0, HB⟩ := hrel
      cases gk with
      | zero => exact absurd HA.out (by simp [Y9.l0])
      | succ k2 =>
       have H := HA.out
       clear HA
       simp only [Y9.l0] at H
       by_cases c11 : x3_2 < (l0_1.length : Int)
       ·rw [if_pos c11] at H
        have c11b0 := decide_eq_true c11
        clear c11
        obtain ⟨c12, H⟩ := iS H
        have c12b0 := decide_eq_true c12
        clear c12
        obtain ⟨t_0, A130, H⟩ := bS H
        replace H : (if t_0 = 0 then (Y9.l0 k2 (wrap64 (x3_2 + 1)) a0_0 l0_1) else (some t_0)) = some r := H
        have A13 := Y0.mk A130
        clear A130
        by_cases c14 : t_0 = 0
        ·rw [if_pos c14] at H
         have c14b0 := bqT c14
         have c14b1 := bnF c14
         clear c14
         have H' := Y0.mk H
         clear H
         have z_a := Y1 B_0.out
         have f_9 := Y3 B_0.out
         have p490 : 0 ≤ (x3_2 : Int) := of_decide_eq_true (by first | (with_reducible assumption) | assumption)
         have q490 : x3_2 < (l0_1.length : Int) := of_decide_eq_true (by first | (with_reducible assumption) | assumption)
         obtain ⟨d_3, e490, m_1d, m_13, m_15, m_16, m_1e, m_14, m_19, m_1b, m_18, m_17, m_1f, m_1a, m_1c⟩ := Y1m HR0_1.out x3_2 p490 q490
         cases e490
         replace m_1d := hbC HB m_1d
         replace m_13 := hbC HB m_13
         replace m_15 := hbC HB m_15
         replace m_16 := hbC HB m_16
         replace m_1e := hbC HB m_1e
         replace m_14 := hbC HB m_14
         replace m_19 := hbC HB m_19
         replace m_1b := hbC HB m_1b
         replace m_18 := hbC HB m_18
         replace m_17 := hbC HB m_17
         replace m_1f := hbC HB m_1f
         replace m_1a := hbC HB m_1a
         replace m_1c := hbC HB m_1c
         replace p490 := eq_true p490
         replace q490 := eq_true q490
         go_wp2_with (first | ((with_reducible refine Yh (f := 59) rfl ?_); refine goesA (some 31) Try.func59 #[.agg #[.int .i64 ((Y7 l0_1 x3_2).f0.f0), .int .i64 ((Y7 l0_1 x3_2).f0.f1), .int .i64 ((Y7 l0_1 x3_2).f1), .int .i64 ((Y7 l0_1 x3_2).f2.f0), .int .i64 ((Y7 l0_1 x3_2).f2.f1), .bool ((Y7 l0_1 x3_2).f3), .int .i64 ((Y7 l0_1 x3_2).f4.f0), .int .i64 ((Y7 l0_1 x3_2).f4.f1), .int .i64 ((Y7 l0_1 x3_2).f4.f2), .int .i64 ((Y7 l0_1 x3_2).f4.f3), .int .i64 ((Y7 l0_1 x3_2).f4.f4), .int .i64 ((Y7 l0_1 x3_2).f4.f5), .int .i64 ((Y7 l0_1 x3_2).f4.f6)]] ?_; (with_reducible refine (Yi.calls k2 ((Y7 l0_1 x3_2).f0.f0) ((Y7 l0_1 x3_2).f0.f1) ((Y7 l0_1 x3_2).f1) ((Y7 l0_1 x3_2).f2.f0) ((Y7 l0_1 x3_2).f2.f1) ((Y7 l0_1 x3_2).f3) ((Y7 l0_1 x3_2).f4.f0) ((Y7 l0_1 x3_2).f4.f1) ((Y7 l0_1 x3_2).f4.f2) ((Y7 l0_1 x3_2).f4.f3) ((Y7 l0_1 x3_2).f4.f4) ((Y7 l0_1 x3_2).f4.f5) ((Y7 l0_1 x3_2).f4.f6) t_0 _ A13.out).mono ?_); rintro e w16 ⟨rfl, hb⟩; refine ⟨_, rfl, ?_⟩; replace B_0 := Y0.mk (Y2 (bU B_0.out) hb); replace HB := Y0.mk (Y4 (hU HB.out) hb); (try clear hb); (try clear hb2); (try clear hk); (try clear hi)))
         go_roundg k2
         case measure => have := HJ1.out; have := HK2.out; omega
         case rel => exact ⟨(wrap64 (x3_2 + 1)), reS, H', ⟨by have := HJ1.out; have := HK2.out; omega⟩, ⟨kB B_0⟩, ⟨hU HB.out⟩⟩
        ·rw [if_neg c14] at H
         have c14b0 := bqF c14
         have c14b1 := bnT c14
         obtain rfl := Option.some.inj H
         have z_7 := Y1 B_0.out
         have f_6 := Y3 B_0.out
         have p490 : 0 ≤ (x3_2 : Int) := of_decide_eq_true (by first | (with_reducible assumption) | assumption)
         have q490 : x3_2 < (l0_1.length : Int) := of_decide_eq_true (by first | (with_reducible assumption) | assumption)
         obtain ⟨d_3, e490, m_1d, m_13, m_15, m_16, m_1e, m_14, m_19, m_1b, m_18, m_17, m_1f, m_1a, m_1c⟩ := Y1m HR0_1.out x3_2 p490 q490
         cases e490
         replace m_1d := hbC HB m_1d
         replace m_13 := hbC HB m_13
         replace m_15 := hbC HB m_15
         replace m_16 := hbC HB m_16
         replace m_1e := hbC HB m_1e
         replace m_14 := hbC HB m_14
         replace m_19 := hbC HB m_19
         replace m_1b := hbC HB m_1b
         replace m_18 := hbC HB m_18
         replace m_17 := hbC HB m_17
         replace m_1f := hbC HB m_1f
         replace m_1a := hbC HB m_1a
         replace m_1c := hbC HB m_1c
         replace p490 := eq_true p490
         replace q490 := eq_true q490
         go_wp2_with (first | ((with_reducible refine Yh (f := 59) rfl ?_); refine goesA (some 31) Try.func59 #[.agg #[.int .i64 ((Y7 l0_1 x3_2).f0.f0), .int .i64 ((Y7 l0_1 x3_2).f0.f1), .int .i64 ((Y7 l0_1 x3_2).f1), .int .i64 ((Y7 l0_1 x3_2).f2.f0), .int .i64 ((Y7 l0_1 x3_2).f2.f1), .bool ((Y7 l0_1 x3_2).f3), .int .i64 ((Y7 l0_1 x3_2).f4.f0), .int .i64 ((Y7 l0_1 x3_2).f4.f1), .int .i64 ((Y7 l0_1 x3_2).f4.f2), .int .i64 ((Y7 l0_1 x3_2).f4.f3), .int .i64 ((Y7 l0_1 x3_2).f4.f4), .int .i64 ((Y7 l0_1 x3_2).f4.f5), .int .i64 ((Y7 l0_1 x3_2).f4.f6)]] ?_; (with_reducible refine (Yi.calls k2 ((Y7 l0_1 x3_2).f0.f0) ((Y7 l0_1 x3_2).f0.f1) ((Y7 l0_1 x3_2).f1) ((Y7 l0_1 x3_2).f2.f0) ((Y7 l0_1 x3_2).f2.f1) ((Y7 l0_1 x3_2).f3) ((Y7 l0_1 x3_2).f4.f0) ((Y7 l0_1 x3_2).f4.f1) ((Y7 l0_1 x3_2).f4.f2) ((Y7 l0_1 x3_2).f4.f3) ((Y7 l0_1 x3_2).f4.f4) ((Y7 l0_1 x3_2).f4.f5) ((Y7 l0_1 x3_2).f4.f6) t_0 _ A13.out).mono ?_); rintro e w18 ⟨rfl, hb⟩; refine ⟨_, rfl, ?_⟩; replace B_0 := Y0.mk (Y2 (bU B_0.out) hb); replace HB := Y0.mk (Y4 (hU HB.out) hb); (try clear hb); (try clear hb2); (try clear hk); (try clear hi)))
         go_ret
         exact ⟨reT, hU HB.out⟩
       ·rw [if_neg c11] at H
        have c11b0 := decide_eq_false c11
        clear c11
        have H' := Y0.mk H
        clear H
        have z_8 := Y1 B_0.out
        have f_8 := Y3 B_0.out
        go_wp2
        go_loopg [5] k2 (fun kq v5 w' => ∃ (x5_3 : Int), v5 = .int .i64 x5_3 ∧ Y0 (Y9.l1 kq x5_3 a0_0 l0_1 = some r) ∧ Y0 (kq ≤ k2) ∧ Y0 (w'.heap[g_0]? = some (.cells #[.int .i64 a0_0, (.slice A0_1 l0_1.length c0_1)] 24 (0, 0))) ∧ Y0 (Below w.heap.size w w'))
        case atStart => exact ⟨(1), reS, H', ⟨Nat.le_refl _⟩, ⟨kB B_0⟩, ⟨hU HB.out⟩⟩
        case round =>
         clear H'
         try clear c1
         try clear p2
         try clear c3
         try clear c4
         try clear c4b0
         try clear p4
         try clear q4
         try clear hx4
         try clear c5
         try clear p6
         try clear c7
         try clear c8
         try clear c8b0
         try clear c8b1
         try clear c11
         try clear c11b0
         try clear c12
         try clear c12b0
         try clear c14
         try clear c14b0
         try clear c14b1
         try clear z_3
         try clear z_6
         try clear z_a
         try clear z_e
         try clear z_7
         try clear z_c
         try clear z_8
         try clear z_d
         try clear z_1
         try clear z_2
         try clear z_0
         try clear z_4
         try clear z_5
         try clear z_9
         try clear f_5
         try clear f_7
         try clear f_9
         try clear f_d
         try clear f_6
         try clear f_c
         try clear f_8
         try clear f_b
         try clear f_1
         try clear f_3
         try clear f_0
         try clear f_4
         try clear f_2
         try clear f_a
         try clear m_1d
         try clear m_13
         try clear m_1f
         try clear m_1a
         try clear m_1c
         try clear m_15
         try clear m_16
         try clear m_1e
         try clear m_14
         try clear m_19
         try clear m_1b
         try clear m_18
         try clear m_17
         try clear p2
         try clear p490
         try clear q490
         obtain ⟨x5_3, rfl, HA, HK3, B_0, HB⟩ := hrel
         cases gk with
         | zero => exact absurd HA.out (by simp [Y9.l1])
         | succ k3 =>
          have H := HA.out
          clear HA
          simp only [Y9.l1] at H
          by_cases c20 : x5_3 < (l0_1.length : Int)
          ·rw [if_pos c20] at H
           have c20b0 := decide_eq_true c20
           clear c20
           obtain ⟨ji21, hji21⟩ : ∃ j_ : Int, (wrap64 (x5_3 - 1)) = j_ := ⟨_, rfl⟩
           replace H : (if 0 ≤ (ji21) then (if (ji21) < (l0_1.length : Int) then (if 0 ≤ x5_3 then ((YA.f ((Y7 l0_1 (ji21)).f0.f0) ((Y7 l0_1 (ji21)).f0.f1) ((Y7 l0_1 x5_3).f0.f0) ((Y7 l0_1 x5_3).f0.f1)).bind fun t_1 => (if t_1 = true then (Y9.l1 k3 (wrap64 (x5_3 + 1)) a0_0 l0_1) else (some 5))) else (none)) else (none)) else (none)) = some r := by first | (rw [hji21] at H; exact H) | (simp only [hji21] at H ⊢; exact H)
           have hji21w : (IntKind.i64.wrap (x5_3 - 1)) = ji21 := (i64_w _).trans hji21
           obtain ⟨c22, H⟩ := iS H
           have c22b0 := decide_eq_true c22
           clear c22
           obtain ⟨c23, H⟩ := iS H
           have c23b0 := decide_eq_true c23
           clear c23
           obtain ⟨c24, H⟩ := iS H
           have c24b0 := decide_eq_true c24
           clear c24
           obtain ⟨t_1, A250, H⟩ := bS H
           replace H : (if t_1 = true then (Y9.l1 k3 (wrap64 (x5_3 + 1)) a0_0 l0_1) else (some 5)) = some r := H
           have A25 := Y0.mk A250
           clear A250
           by_cases c26 : t_1 = true
           ·subst c26
            have H1 : (Y9.l1 k3 (wrap64 (x5_3 + 1)) a0_0 l0_1) = some r := by rw [if_pos rfl] at H; exact H
            clear H
            have H := H1
            clear H1
            have H' := Y0.mk H
            clear H
            have z_f := Y1 B_0.out
            have f_f := Y3 B_0.out
            try go_wp2
            replace B_0 := Y0.mk (Y8 B_0.out)
            replace HB := Y0.mk (Yy HB.out)
            have p492 : 0 ≤ ((ji21) : Int) := of_decide_eq_true (by first | (with_reducible assumption) | assumption)
            have q492 : (ji21) < (l0_1.length : Int) := of_decide_eq_true (by first | (with_reducible assumption) | assumption)
            obtain ⟨d_0, e492, m_5, m_6, m_9, m_1, m_4, m_h, m_f, m_e, m_3, m_0, m_b, m_m, m_i⟩ := Y1m HR0_1.out (ji21) p492 q492
            have q_12 := m_i
            have q_9 := m_m
            have q_q := m_b
            have q_t := m_0
            have q_v := m_3
            have q_p := m_e
            have q_x := m_f
            have q_7 := m_h
            have q_11 := m_4
            have q_l := m_1
            have q_u := m_9
            have q_s := m_6
            have q_h := m_5
            cases e492
            replace m_5 := hbC HB m_5
            replace m_6 := hbC HB m_6
            replace m_9 := hbC HB m_9
            replace m_1 := hbC HB m_1
            replace m_4 := hbC HB m_4
            replace m_h := hbC HB m_h
            replace m_f := hbC HB m_f
            replace m_e := hbC HB m_e
            replace m_3 := hbC HB m_3
            replace m_0 := hbC HB m_0
            replace m_b := hbC HB m_b
            replace m_m := hbC HB m_m
            replace m_i := hbC HB m_i
            replace p492 := eq_true p492
            replace q492 := eq_true q492
            have p493 : 0 ≤ (x5_3 : Int) := of_decide_eq_true (by first | (with_reducible assumption) | assumption)
            have q493 : x5_3 < (l0_1.length : Int) := of_decide_eq_true (by first | (with_reducible assumption) | assumption)
            obtain ⟨d_2, e493, m_8, m_p, m_k, m_g, m_c, m_j, m_7, m_o, m_a, m_d, m_2, m_l, m_n⟩ := Y1m HR0_1.out x5_3 p493 q493
            have q_e := m_n
            have q_j := m_l
            have q_w := m_2
            have q_2 := m_d
            have q_n := m_a
            have q_c := m_o
            have q_d := m_7
            have q_i := m_j
            have q_a := m_c
            have q_g := m_g
            have q_z := m_k
            have q_1 := m_p
            have q_o := m_8
            obtain rfl : d_0 = d_2 := (by injection e493)
            replace m_8 := hbC HB m_8
            replace m_p := hbC HB m_p
            replace m_k := hbC HB m_k
            replace m_g := hbC HB m_g
            replace m_c := hbC HB m_c
            replace m_j := hbC HB m_j
            replace m_7 := hbC HB m_7
            replace m_o := hbC HB m_o
            replace m_a := hbC HB m_a
            replace m_d := hbC HB m_d
            replace m_2 := hbC HB m_2
            replace m_l := hbC HB m_l
            replace m_n := hbC HB m_n
            replace p493 := eq_true p493
            replace q493 := eq_true q493
            refine Y1i (n := 15) (S := fun w' => w'.cell? ⟨g_0, 0, none⟩ = some (.int .i64 a0_0) ∧ w'.cell? ⟨g_0, 1, none⟩ = some (.slice (some d_0) l0_1.length c0_1) ∧ w'.cell? (d_0.add (((ji21)).toNat * 13)) = some (.int .i64 ((Y7 l0_1 (ji21)).f0.f0)) ∧ w'.cell? ⟨(d_0.add (((ji21)).toNat * 13)).block, (d_0.add (((ji21)).toNat * 13)).off + 1, none⟩ = some (.int .i64 ((Y7 l0_1 (ji21)).f0.f1)) ∧ w'.cell? ⟨(d_0.add (((ji21)).toNat * 13)).block, (d_0.add (((ji21)).toNat * 13)).off + 2, none⟩ = some (.int .i64 ((Y7 l0_1 (ji21)).f1)) ∧ w'.cell? ⟨(d_0.add (((ji21)).toNat * 13)).block, (d_0.add (((ji21)).toNat * 13)).off + 3, none⟩ = some (.int .i64 ((Y7 l0_1 (ji21)).f2.f0)) ∧ w'.cell? ⟨(d_0.add (((ji21)).toNat * 13)).block, (d_0.add (((ji21)).toNat * 13)).off + 4, none⟩ = some (.int .i64 ((Y7 l0_1 (ji21)).f2.f1)) ∧ w'.cell? ⟨(d_0.add (((ji21)).toNat * 13)).block, (d_0.add (((ji21)).toNat * 13)).off + 5, none⟩ = some (.bool ((Y7 l0_1 (ji21)).f3)) ∧ w'.cell? ⟨(d_0.add (((ji21)).toNat * 13)).block, (d_0.add (((ji21)).toNat * 13)).off + 6, none⟩ = some (.int .i64 ((Y7 l0_1 (ji21)).f4.f0)) ∧ w'.cell? ⟨(d_0.add (((ji21)).toNat * 13)).block, (d_0.add (((ji21)).toNat * 13)).off + 7, none⟩ = some (.int .i64 ((Y7 l0_1 (ji21)).f4.f1)) ∧ w'.cell? ⟨(d_0.add (((ji21)).toNat * 13)).block, (d_0.add (((ji21)).toNat * 13)).off + 8, none⟩ = some (.int .i64 ((Y7 l0_1 (ji21)).f4.f2)) ∧ w'.cell? ⟨(d_0.add (((ji21)).toNat * 13)).block, (d_0.add (((ji21)).toNat * 13)).off + 9, none⟩ = some (.int .i64 ((Y7 l0_1 (ji21)).f4.f3)) ∧ w'.cell? ⟨(d_0.add (((ji21)).toNat * 13)).block, (d_0.add (((ji21)).toNat * 13)).off + 10, none⟩ = some (.int .i64 ((Y7 l0_1 (ji21)).f4.f4)) ∧ w'.cell? ⟨(d_0.add (((ji21)).toNat * 13)).block, (d_0.add (((ji21)).toNat * 13)).off + 11, none⟩ = some (.int .i64 ((Y7 l0_1 (ji21)).f4.f5)) ∧ w'.cell? ⟨(d_0.add (((ji21)).toNat * 13)).block, (d_0.add (((ji21)).toNat * 13)).off + 12, none⟩ = some (.int .i64 ((Y7 l0_1 (ji21)).f4.f6)) ∧ w'.cell? (d_0.add ((x5_3).toNat * 13)) = some (.int .i64 ((Y7 l0_1 x5_3).f0.f0)) ∧ w'.cell? ⟨(d_0.add ((x5_3).toNat * 13)).block, (d_0.add ((x5_3).toNat * 13)).off + 1, none⟩ = some (.int .i64 ((Y7 l0_1 x5_3).f0.f1)) ∧ w'.cell? ⟨(d_0.add ((x5_3).toNat * 13)).block, (d_0.add ((x5_3).toNat * 13)).off + 2, none⟩ = some (.int .i64 ((Y7 l0_1 x5_3).f1)) ∧ w'.cell? ⟨(d_0.add ((x5_3).toNat * 13)).block, (d_0.add ((x5_3).toNat * 13)).off + 3, none⟩ = some (.int .i64 ((Y7 l0_1 x5_3).f2.f0)) ∧ w'.cell? ⟨(d_0.add ((x5_3).toNat * 13)).block, (d_0.add ((x5_3).toNat * 13)).off + 4, none⟩ = some (.int .i64 ((Y7 l0_1 x5_3).f2.f1)) ∧ w'.cell? ⟨(d_0.add ((x5_3).toNat * 13)).block, (d_0.add ((x5_3).toNat * 13)).off + 5, none⟩ = some (.bool ((Y7 l0_1 x5_3).f3)) ∧ w'.cell? ⟨(d_0.add ((x5_3).toNat * 13)).block, (d_0.add ((x5_3).toNat * 13)).off + 6, none⟩ = some (.int .i64 ((Y7 l0_1 x5_3).f4.f0)) ∧ w'.cell? ⟨(d_0.add ((x5_3).toNat * 13)).block, (d_0.add ((x5_3).toNat * 13)).off + 7, none⟩ = some (.int .i64 ((Y7 l0_1 x5_3).f4.f1)) ∧ w'.cell? ⟨(d_0.add ((x5_3).toNat * 13)).block, (d_0.add ((x5_3).toNat * 13)).off + 8, none⟩ = some (.int .i64 ((Y7 l0_1 x5_3).f4.f2)) ∧ w'.cell? ⟨(d_0.add ((x5_3).toNat * 13)).block, (d_0.add ((x5_3).toNat * 13)).off + 9, none⟩ = some (.int .i64 ((Y7 l0_1 x5_3).f4.f3)) ∧ w'.cell? ⟨(d_0.add ((x5_3).toNat * 13)).block, (d_0.add ((x5_3).toNat * 13)).off + 10, none⟩ = some (.int .i64 ((Y7 l0_1 x5_3).f4.f4)) ∧ w'.cell? ⟨(d_0.add ((x5_3).toNat * 13)).block, (d_0.add ((x5_3).toNat * 13)).off + 11, none⟩ = some (.int .i64 ((Y7 l0_1 x5_3).f4.f5)) ∧ w'.cell? ⟨(d_0.add ((x5_3).toNat * 13)).block, (d_0.add ((x5_3).toNat * 13)).off + 12, none⟩ = some (.int .i64 ((Y7 l0_1 x5_3).f4.f6))) (ds := []) #[false, false, false, false, false, false, false, false, false, false, false, false, false, false, false] (by kernel_rfl) rfl rfl ⟨(Y1 B_0.out 0).trans rfl, (Y1 B_0.out 1).trans rfl, (hbC HB q_h), (hbC HB q_s), (hbC HB q_u), (hbC HB q_l), (hbC HB q_11), (hbC HB q_7), (hbC HB q_x), (hbC HB q_p), (hbC HB q_v), (hbC HB q_t), (hbC HB q_q), (hbC HB q_9), (hbC HB q_12), (hbC HB q_o), (hbC HB q_1), (hbC HB q_z), (hbC HB q_g), (hbC HB q_a), (hbC HB q_i), (hbC HB q_d), (hbC HB q_c), (hbC HB q_n), (hbC HB q_2), (hbC HB q_w), (hbC HB q_j), (hbC HB q_e)⟩ (fun hHeld => ?_); refine Y10 Y9.tab14 Y9.bits14 (fun HT_ HW_ => ?_)
            generalize wr.drew = w28 at B_0 HB m_5 m_6 m_b m_m m_i m_9 m_1 m_4 m_h m_f m_e m_3 m_0 m_8 m_p m_2 m_l m_n m_k m_g m_c m_j m_7 m_o m_a m_d hHeld ⊢
            refine puA 0 42 (bs 15 1) ?_
            refine puA 2 44 (bs 15 5) ?_
            refine puA 3 45 (bs 15 13) ?_
            refine puA 7 49 (bs 15 141) ?_
            refine puA 9 51 (bs 15 653) ?_
            refine tkA 1 43 (bs 15 655) hHeld ?_
            refine puA 4 46 (bs 15 671) ?_
            refine puA 5 47 (bs 15 703) ?_
            refine tkA 6 48 (bs 15 767) hHeld ?_
            refine tkA 8 50 (bs 15 1023) hHeld ?_
            refine puA 10 52 (bs 15 2047) ?_
            refine puA 11 53 (bs 15 4095) ?_
            refine tkA 12 54 (bs 15 8191) hHeld ?_
            refine one_ (i := 13) (N := some 55) (bs 15 16383) rfl rfl (YZ HT_.out (by kernel_rfl)) (by decide) (fun K hK => ?_)
            refine goes_ Try.func79 (by kernel_rfl) rfl #[.agg #[.int .i64 ((Y7 l0_1 (ji21)).f0.f0), .int .i64 ((Y7 l0_1 (ji21)).f0.f1)], .agg #[.int .i64 ((Y7 l0_1 x5_3).f0.f0), .int .i64 ((Y7 l0_1 x5_3).f0.f1)]] (by rfl) rfl rfl (by (try simp only [List.map_toArray, List.map_cons, List.map_nil]); first | done | (simp only [hji21]; rfl) | rfl | (simp only [List.length_drop, List.length_take]; rfl)) ?_
            with_reducible refine (YA.calls ((Y7 l0_1 (ji21)).f0.f0) ((Y7 l0_1 (ji21)).f0.f1) ((Y7 l0_1 x5_3).f0.f0) ((Y7 l0_1 x5_3).f0.f1) true _ A25.out).mono ?_
            rintro e w29 ⟨rfl, hb⟩
            refine ⟨_, rfl, ?_⟩
            replace B_0 := Y0.mk (Y2 (bU B_0.out) hb)
            replace HB := Y0.mk (Y4 (hU HB.out) hb)
            (try clear hb)
            (try clear hb2)
            (try clear hk)
            (try clear hi)
            refine hK.out _ _ ⟨(Y1 B_0.out 0).trans rfl, (Y1 B_0.out 1).trans rfl, (hbC HB q_h), (hbC HB q_s), (hbC HB q_u), (hbC HB q_l), (hbC HB q_11), (hbC HB q_7), (hbC HB q_x), (hbC HB q_p), (hbC HB q_v), (hbC HB q_t), (hbC HB q_q), (hbC HB q_9), (hbC HB q_12), (hbC HB q_o), (hbC HB q_1), (hbC HB q_z), (hbC HB q_g), (hbC HB q_a), (hbC HB q_i), (hbC HB q_d), (hbC HB q_c), (hbC HB q_n), (hbC HB q_2), (hbC HB q_w), (hbC HB q_j), (hbC HB q_e)⟩ (fun hHeld => ?_)
            clear hK K
            refine nmA 55 ?_
            refine puA 14 56 (bs 15 32767) ?_
            refine done_ (Y1h HT_.out (by kernel_rfl)) ?_
            try go_wp2
            go_roundg k3
            case measure => have := HJ1.out; have := HK2.out; have := HK3.out; omega
            case rel => exact ⟨(wrap64 (x5_3 + 1)), reS, H', ⟨by have := HJ1.out; have := HK2.out; have := HK3.out; omega⟩, ⟨kB B_0⟩, ⟨hU HB.out⟩⟩
           ·replace c26 := Bool.eq_false_iff.mpr c26
            subst c26
            have H1 : (some 5) = some r := by rw [if_neg (show ¬ (false = true) by decide)] at H; exact H
            clear H
            have H := H1
            clear H1
            obtain rfl := Option.some.inj H
            have z_b := Y1 B_0.out
            have f_e := Y3 B_0.out
            try go_wp2
            replace B_0 := Y0.mk (Y8 B_0.out)
            replace HB := Y0.mk (Yy HB.out)
            have p492 : 0 ≤ ((ji21) : Int) := of_decide_eq_true (by first | (with_reducible assumption) | assumption)
            have q492 : (ji21) < (l0_1.length : Int) := of_decide_eq_true (by first | (with_reducible assumption) | assumption)
            obtain ⟨d_0, e492, m_5, m_6, m_9, m_1, m_4, m_h, m_f, m_e, m_3, m_0, m_b, m_m, m_i⟩ := Y1m HR0_1.out (ji21) p492 q492
            have q_12 := m_i
            have q_9 := m_m
            have q_q := m_b
            have q_t := m_0
            have q_v := m_3
            have q_p := m_e
            have q_x := m_f
            have q_7 := m_h
            have q_11 := m_4
            have q_l := m_1
            have q_u := m_9
            have q_s := m_6
            have q_h := m_5
            cases e492
            replace m_5 := hbC HB m_5
            replace m_6 := hbC HB m_6
            replace m_9 := hbC HB m_9
            replace m_1 := hbC HB m_1
            replace m_4 := hbC HB m_4
            replace m_h := hbC HB m_h
            replace m_f := hbC HB m_f
            replace m_e := hbC HB m_e
            replace m_3 := hbC HB m_3
            replace m_0 := hbC HB m_0
            replace m_b := hbC HB m_b
            replace m_m := hbC HB m_m
            replace m_i := hbC HB m_i
            replace p492 := eq_true p492
            replace q492 := eq_true q492
            have p493 : 0 ≤ (x5_3 : Int) := of_decide_eq_true (by first | (with_reducible assumption) | assumption)
            have q493 : x5_3 < (l0_1.length : Int) := of_decide_eq_true (by first | (with_reducible assumption) | assumption)
            obtain ⟨d_2, e493, m_8, m_p, m_k, m_g, m_c, m_j, m_7, m_o, m_a, m_d, m_2, m_l, m_n⟩ := Y1m HR0_1.out x5_3 p493 q493
            have q_e := m_n
            have q_j := m_l
            have q_w := m_2
            have q_2 := m_d
            have q_n := m_a
            have q_c := m_o
            have q_d := m_7
            have q_i := m_j
            have q_a := m_c
            have q_g := m_g
            have q_z := m_k
            have q_1 := m_p
            have q_o := m_8
            obtain rfl : d_0 = d_2 := (by injection e493)
            replace m_8 := hbC HB m_8
            replace m_p := hbC HB m_p
            replace m_k := hbC HB m_k
            replace m_g := hbC HB m_g
            replace m_c := hbC HB m_c
            replace m_j := hbC HB m_j
            replace m_7 := hbC HB m_7
            replace m_o := hbC HB m_o
            replace m_a := hbC HB m_a
            replace m_d := hbC HB m_d
            replace m_2 := hbC HB m_2
            replace m_l := hbC HB m_l
            replace m_n := hbC HB m_n
            replace p493 := eq_true p493
            replace q493 := eq_true q493
            refine Y1i (n := 15) (S := fun w' => w'.cell? ⟨g_0, 0, none⟩ = some (.int .i64 a0_0) ∧ w'.cell? ⟨g_0, 1, none⟩ = some (.slice (some d_0) l0_1.length c0_1) ∧ w'.cell? (d_0.add (((ji21)).toNat * 13)) = some (.int .i64 ((Y7 l0_1 (ji21)).f0.f0)) ∧ w'.cell? ⟨(d_0.add (((ji21)).toNat * 13)).block, (d_0.add (((ji21)).toNat * 13)).off + 1, none⟩ = some (.int .i64 ((Y7 l0_1 (ji21)).f0.f1)) ∧ w'.cell? ⟨(d_0.add (((ji21)).toNat * 13)).block, (d_0.add (((ji21)).toNat * 13)).off + 2, none⟩ = some (.int .i64 ((Y7 l0_1 (ji21)).f1)) ∧ w'.cell? ⟨(d_0.add (((ji21)).toNat * 13)).block, (d_0.add (((ji21)).toNat * 13)).off + 3, none⟩ = some (.int .i64 ((Y7 l0_1 (ji21)).f2.f0)) ∧ w'.cell? ⟨(d_0.add (((ji21)).toNat * 13)).block, (d_0.add (((ji21)).toNat * 13)).off + 4, none⟩ = some (.int .i64 ((Y7 l0_1 (ji21)).f2.f1)) ∧ w'.cell? ⟨(d_0.add (((ji21)).toNat * 13)).block, (d_0.add (((ji21)).toNat * 13)).off + 5, none⟩ = some (.bool ((Y7 l0_1 (ji21)).f3)) ∧ w'.cell? ⟨(d_0.add (((ji21)).toNat * 13)).block, (d_0.add (((ji21)).toNat * 13)).off + 6, none⟩ = some (.int .i64 ((Y7 l0_1 (ji21)).f4.f0)) ∧ w'.cell? ⟨(d_0.add (((ji21)).toNat * 13)).block, (d_0.add (((ji21)).toNat * 13)).off + 7, none⟩ = some (.int .i64 ((Y7 l0_1 (ji21)).f4.f1)) ∧ w'.cell? ⟨(d_0.add (((ji21)).toNat * 13)).block, (d_0.add (((ji21)).toNat * 13)).off + 8, none⟩ = some (.int .i64 ((Y7 l0_1 (ji21)).f4.f2)) ∧ w'.cell? ⟨(d_0.add (((ji21)).toNat * 13)).block, (d_0.add (((ji21)).toNat * 13)).off + 9, none⟩ = some (.int .i64 ((Y7 l0_1 (ji21)).f4.f3)) ∧ w'.cell? ⟨(d_0.add (((ji21)).toNat * 13)).block, (d_0.add (((ji21)).toNat * 13)).off + 10, none⟩ = some (.int .i64 ((Y7 l0_1 (ji21)).f4.f4)) ∧ w'.cell? ⟨(d_0.add (((ji21)).toNat * 13)).block, (d_0.add (((ji21)).toNat * 13)).off + 11, none⟩ = some (.int .i64 ((Y7 l0_1 (ji21)).f4.f5)) ∧ w'.cell? ⟨(d_0.add (((ji21)).toNat * 13)).block, (d_0.add (((ji21)).toNat * 13)).off + 12, none⟩ = some (.int .i64 ((Y7 l0_1 (ji21)).f4.f6)) ∧ w'.cell? (d_0.add ((x5_3).toNat * 13)) = some (.int .i64 ((Y7 l0_1 x5_3).f0.f0)) ∧ w'.cell? ⟨(d_0.add ((x5_3).toNat * 13)).block, (d_0.add ((x5_3).toNat * 13)).off + 1, none⟩ = some (.int .i64 ((Y7 l0_1 x5_3).f0.f1)) ∧ w'.cell? ⟨(d_0.add ((x5_3).toNat * 13)).block, (d_0.add ((x5_3).toNat * 13)).off + 2, none⟩ = some (.int .i64 ((Y7 l0_1 x5_3).f1)) ∧ w'.cell? ⟨(d_0.add ((x5_3).toNat * 13)).block, (d_0.add ((x5_3).toNat * 13)).off + 3, none⟩ = some (.int .i64 ((Y7 l0_1 x5_3).f2.f0)) ∧ w'.cell? ⟨(d_0.add ((x5_3).toNat * 13)).block, (d_0.add ((x5_3).toNat * 13)).off + 4, none⟩ = some (.int .i64 ((Y7 l0_1 x5_3).f2.f1)) ∧ w'.cell? ⟨(d_0.add ((x5_3).toNat * 13)).block, (d_0.add ((x5_3).toNat * 13)).off + 5, none⟩ = some (.bool ((Y7 l0_1 x5_3).f3)) ∧ w'.cell? ⟨(d_0.add ((x5_3).toNat * 13)).block, (d_0.add ((x5_3).toNat * 13)).off + 6, none⟩ = some (.int .i64 ((Y7 l0_1 x5_3).f4.f0)) ∧ w'.cell? ⟨(d_0.add ((x5_3).toNat * 13)).block, (d_0.add ((x5_3).toNat * 13)).off + 7, none⟩ = some (.int .i64 ((Y7 l0_1 x5_3).f4.f1)) ∧ w'.cell? ⟨(d_0.add ((x5_3).toNat * 13)).block, (d_0.add ((x5_3).toNat * 13)).off + 8, none⟩ = some (.int .i64 ((Y7 l0_1 x5_3).f4.f2)) ∧ w'.cell? ⟨(d_0.add ((x5_3).toNat * 13)).block, (d_0.add ((x5_3).toNat * 13)).off + 9, none⟩ = some (.int .i64 ((Y7 l0_1 x5_3).f4.f3)) ∧ w'.cell? ⟨(d_0.add ((x5_3).toNat * 13)).block, (d_0.add ((x5_3).toNat * 13)).off + 10, none⟩ = some (.int .i64 ((Y7 l0_1 x5_3).f4.f4)) ∧ w'.cell? ⟨(d_0.add ((x5_3).toNat * 13)).block, (d_0.add ((x5_3).toNat * 13)).off + 11, none⟩ = some (.int .i64 ((Y7 l0_1 x5_3).f4.f5)) ∧ w'.cell? ⟨(d_0.add ((x5_3).toNat * 13)).block, (d_0.add ((x5_3).toNat * 13)).off + 12, none⟩ = some (.int .i64 ((Y7 l0_1 x5_3).f4.f6))) (ds := []) #[false, false, false, false, false, false, false, false, false, false, false, false, false, false, false] (by kernel_rfl) rfl rfl ⟨(Y1 B_0.out 0).trans rfl, (Y1 B_0.out 1).trans rfl, (hbC HB q_h), (hbC HB q_s), (hbC HB q_u), (hbC HB q_l), (hbC HB q_11), (hbC HB q_7), (hbC HB q_x), (hbC HB q_p), (hbC HB q_v), (hbC HB q_t), (hbC HB q_q), (hbC HB q_9), (hbC HB q_12), (hbC HB q_o), (hbC HB q_1), (hbC HB q_z), (hbC HB q_g), (hbC HB q_a), (hbC HB q_i), (hbC HB q_d), (hbC HB q_c), (hbC HB q_n), (hbC HB q_2), (hbC HB q_w), (hbC HB q_j), (hbC HB q_e)⟩ (fun hHeld => ?_); refine Y10 Y9.tab14 Y9.bits14 (fun HT_ HW_ => ?_)
            generalize wr.drew = w31 at B_0 HB m_5 m_6 m_b m_m m_i m_9 m_1 m_4 m_h m_f m_e m_3 m_0 m_8 m_p m_2 m_l m_n m_k m_g m_c m_j m_7 m_o m_a m_d hHeld ⊢
            refine puA 0 42 (bs 15 1) ?_
            refine puA 2 44 (bs 15 5) ?_
            refine puA 3 45 (bs 15 13) ?_
            refine puA 7 49 (bs 15 141) ?_
            refine puA 9 51 (bs 15 653) ?_
            refine tkA 1 43 (bs 15 655) hHeld ?_
            refine puA 4 46 (bs 15 671) ?_
            refine puA 5 47 (bs 15 703) ?_
            refine tkA 6 48 (bs 15 767) hHeld ?_
            refine tkA 8 50 (bs 15 1023) hHeld ?_
            refine puA 10 52 (bs 15 2047) ?_
            refine puA 11 53 (bs 15 4095) ?_
            refine tkA 12 54 (bs 15 8191) hHeld ?_
            refine one_ (i := 13) (N := some 55) (bs 15 16383) rfl rfl (YZ HT_.out (by kernel_rfl)) (by decide) (fun K hK => ?_)
            refine goes_ Try.func79 (by kernel_rfl) rfl #[.agg #[.int .i64 ((Y7 l0_1 (ji21)).f0.f0), .int .i64 ((Y7 l0_1 (ji21)).f0.f1)], .agg #[.int .i64 ((Y7 l0_1 x5_3).f0.f0), .int .i64 ((Y7 l0_1 x5_3).f0.f1)]] (by rfl) rfl rfl (by (try simp only [List.map_toArray, List.map_cons, List.map_nil]); first | done | (simp only [hji21]; rfl) | rfl | (simp only [List.length_drop, List.length_take]; rfl)) ?_
            with_reducible refine (YA.calls ((Y7 l0_1 (ji21)).f0.f0) ((Y7 l0_1 (ji21)).f0.f1) ((Y7 l0_1 x5_3).f0.f0) ((Y7 l0_1 x5_3).f0.f1) false _ A25.out).mono ?_
            rintro e w32 ⟨rfl, hb⟩
            refine ⟨_, rfl, ?_⟩
            replace B_0 := Y0.mk (Y2 (bU B_0.out) hb)
            replace HB := Y0.mk (Y4 (hU HB.out) hb)
            (try clear hb)
            (try clear hb2)
            (try clear hk)
            (try clear hi)
            refine hK.out _ _ ⟨(Y1 B_0.out 0).trans rfl, (Y1 B_0.out 1).trans rfl, (hbC HB q_h), (hbC HB q_s), (hbC HB q_u), (hbC HB q_l), (hbC HB q_11), (hbC HB q_7), (hbC HB q_x), (hbC HB q_p), (hbC HB q_v), (hbC HB q_t), (hbC HB q_q), (hbC HB q_9), (hbC HB q_12), (hbC HB q_o), (hbC HB q_1), (hbC HB q_z), (hbC HB q_g), (hbC HB q_a), (hbC HB q_i), (hbC HB q_d), (hbC HB q_c), (hbC HB q_n), (hbC HB q_2), (hbC HB q_w), (hbC HB q_j), (hbC HB q_e)⟩ (fun hHeld => ?_)
            clear hK K
            refine nmA 55 ?_
            refine puA 14 56 (bs 15 32767) ?_
            refine done_ (Y1h HT_.out (by kernel_rfl)) ?_
            try go_wp2
            go_ret
            exact ⟨by first | rfl | (simp [Y1v, Y1w] <;> rfl) | (simp only [← hji21]; first | rfl | (simp [Y1v, Y1w] <;> rfl)) | (simp [*, Y1v, Y1w] <;> rfl), hU HB.out⟩
          ·rw [if_neg c20] at H
           have c20b0 := decide_eq_false c20
           clear c20
           have H' := Y0.mk H
           clear H
           have z_g := Y1 B_0.out
           have f_g := Y3 B_0.out
           go_wp2
           go_loopg [6] k3 (fun kq v6 w' => ∃ (x6_4 : Int), v6 = .int .i64 x6_4 ∧ Y0 (Y9.l2 kq x6_4 a0_0 l0_1 = some r) ∧ Y0 (kq ≤ k3) ∧ Y0 (w'.heap[g_0]? = some (.cells #[.int .i64 a0_0, (.slice A0_1 l0_1.length c0_1)] 24 (0, 0))) ∧ Y0 (Below w.heap.size w w'))
           case atStart => exact ⟨(0), reS, H', ⟨Nat.le_refl _⟩, ⟨kB B_0⟩, ⟨hU HB.out⟩⟩
           case round =>
            clear H'
            try clear c1
            try clear c2
            try clear p2
            try clear c3
            try clear c4
            try clear c4b0
            try clear p4
            try clear q4
            try clear hx4
            try clear c5
            try clear p6
            try clear c7
            try clear c8
            try clear c8b0
            try clear c8b1
            try clear c11
            try clear c11b0
            try clear c12
            try clear c12b0
            try clear c14
            try clear c14b0
            try clear c14b1
            try clear c20
            try clear c20b0
            try clear c22
            try clear c22b0
            try clear c23
            try clear c23b0
            try clear c24
            try clear c24b0
            try clear c26
            try clear z_3
            try clear z_6
            try clear z_a
            try clear z_e
            try clear z_7
            try clear z_c
            try clear z_8
            try clear z_d
            try clear z_f
            try clear z_l
            try clear z_b
            try clear z_j
            try clear z_g
            try clear z_i
            try clear z_1
            try clear z_2
            try clear z_0
            try clear z_4
            try clear z_5
            try clear z_9
            try clear f_5
            try clear f_7
            try clear f_9
            try clear f_d
            try clear f_6
            try clear f_c
            try clear f_8
            try clear f_b
            try clear f_f
            try clear f_i
            try clear f_e
            try clear f_j
            try clear f_g
            try clear f_h
            try clear f_1
            try clear f_3
            try clear f_0
            try clear f_4
            try clear f_2
            try clear f_a
            try clear m_1d
            try clear m_13
            try clear m_1f
            try clear m_1a
            try clear m_1c
            try clear m_15
            try clear m_16
            try clear m_1e
            try clear m_14
            try clear m_19
            try clear m_1b
            try clear m_18
            try clear m_17
            try clear m_5
            try clear m_6
            try clear m_b
            try clear m_m
            try clear m_i
            try clear m_9
            try clear m_1
            try clear m_4
            try clear m_h
            try clear m_f
            try clear m_e
            try clear m_3
            try clear m_0
            try clear m_8
            try clear m_p
            try clear m_2
            try clear m_l
            try clear m_n
            try clear m_k
            try clear m_g
            try clear m_c
            try clear m_j
            try clear m_7
            try clear m_o
            try clear m_a
            try clear m_d
            try clear p2
            try clear p4
            try clear p490
            try clear p492
            try clear p493
            try clear p6
            try clear q4
            try clear q490
            try clear q492
            try clear q493
            obtain ⟨x6_4, rfl, HA, HK4, B_0, HB⟩ := hrel
            cases gk with
            | zero => exact absurd HA.out (by simp [Y9.l2])
            | succ k4 =>
             have H := HA.out
             clear HA
             simp only [Y9.l2] at H
             by_cases c34 : x6_4 < (l0_1.length : Int)
             ·rw [if_pos c34] at H
              have c34b0 := decide_eq_true c34
              clear c34
              obtain ⟨c35, H⟩ := iS H
              have c35b0 := decide_eq_true c35
              clear c35
              obtain ⟨t_2, A360, H⟩ := bS H
              replace H : (if t_2 = true then (Y9.l2 k4 (wrap64 (x6_4 + 1)) a0_0 l0_1) else (some 6)) = some r := H
              have A36 := Y0.mk A360
              clear A360
              by_cases c37 : t_2 = true
              ·subst c37
               have H1 : (Y9.l2 k4 (wrap64 (x6_4 + 1)) a0_0 l0_1) = some r := by rw [if_pos rfl] at H; exact H
               clear H
               have H := H1
               clear H1
               have H' := Y0.mk H
               clear H
               have z_k := Y1 B_0.out
               have f_l := Y3 B_0.out
               try go_wp2
               replace B_0 := Y0.mk (Y8 B_0.out)
               replace HB := Y0.mk (Yy HB.out)
               have p495 : 0 ≤ (x6_4 : Int) := of_decide_eq_true (by first | (with_reducible assumption) | assumption)
               have q495 : x6_4 < (l0_1.length : Int) := of_decide_eq_true (by first | (with_reducible assumption) | assumption)
               obtain ⟨d_1, e495, m_10, m_11, m_s, m_w, m_v, m_x, m_t, m_u, m_q, m_y, m_z, m_12, m_r⟩ := Y1m HR0_1.out x6_4 p495 q495
               have q_y := m_r
               have q_f := m_12
               have q_m := m_z
               have q_10 := m_y
               have q_6 := m_q
               have q_r := m_u
               have q_0 := m_t
               have q_4 := m_x
               have q_k := m_v
               have q_8 := m_w
               have q_5 := m_s
               have q_3 := m_11
               have q_b := m_10
               cases e495
               replace m_10 := hbC HB m_10
               replace m_11 := hbC HB m_11
               replace m_s := hbC HB m_s
               replace m_w := hbC HB m_w
               replace m_v := hbC HB m_v
               replace m_x := hbC HB m_x
               replace m_t := hbC HB m_t
               replace m_u := hbC HB m_u
               replace m_q := hbC HB m_q
               replace m_y := hbC HB m_y
               replace m_z := hbC HB m_z
               replace m_12 := hbC HB m_12
               replace m_r := hbC HB m_r
               replace p495 := eq_true p495
               replace q495 := eq_true q495
               refine Y1i (n := 9) (S := fun w' => w'.cell? ⟨g_0, 0, none⟩ = some (.int .i64 a0_0) ∧ w'.cell? ⟨g_0, 1, none⟩ = some (.slice (some d_1) l0_1.length c0_1) ∧ w'.cell? (d_1.add ((x6_4).toNat * 13)) = some (.int .i64 ((Y7 l0_1 x6_4).f0.f0)) ∧ w'.cell? ⟨(d_1.add ((x6_4).toNat * 13)).block, (d_1.add ((x6_4).toNat * 13)).off + 1, none⟩ = some (.int .i64 ((Y7 l0_1 x6_4).f0.f1)) ∧ w'.cell? ⟨(d_1.add ((x6_4).toNat * 13)).block, (d_1.add ((x6_4).toNat * 13)).off + 2, none⟩ = some (.int .i64 ((Y7 l0_1 x6_4).f1)) ∧ w'.cell? ⟨(d_1.add ((x6_4).toNat * 13)).block, (d_1.add ((x6_4).toNat * 13)).off + 3, none⟩ = some (.int .i64 ((Y7 l0_1 x6_4).f2.f0)) ∧ w'.cell? ⟨(d_1.add ((x6_4).toNat * 13)).block, (d_1.add ((x6_4).toNat * 13)).off + 4, none⟩ = some (.int .i64 ((Y7 l0_1 x6_4).f2.f1)) ∧ w'.cell? ⟨(d_1.add ((x6_4).toNat * 13)).block, (d_1.add ((x6_4).toNat * 13)).off + 5, none⟩ = some (.bool ((Y7 l0_1 x6_4).f3)) ∧ w'.cell? ⟨(d_1.add ((x6_4).toNat * 13)).block, (d_1.add ((x6_4).toNat * 13)).off + 6, none⟩ = some (.int .i64 ((Y7 l0_1 x6_4).f4.f0)) ∧ w'.cell? ⟨(d_1.add ((x6_4).toNat * 13)).block, (d_1.add ((x6_4).toNat * 13)).off + 7, none⟩ = some (.int .i64 ((Y7 l0_1 x6_4).f4.f1)) ∧ w'.cell? ⟨(d_1.add ((x6_4).toNat * 13)).block, (d_1.add ((x6_4).toNat * 13)).off + 8, none⟩ = some (.int .i64 ((Y7 l0_1 x6_4).f4.f2)) ∧ w'.cell? ⟨(d_1.add ((x6_4).toNat * 13)).block, (d_1.add ((x6_4).toNat * 13)).off + 9, none⟩ = some (.int .i64 ((Y7 l0_1 x6_4).f4.f3)) ∧ w'.cell? ⟨(d_1.add ((x6_4).toNat * 13)).block, (d_1.add ((x6_4).toNat * 13)).off + 10, none⟩ = some (.int .i64 ((Y7 l0_1 x6_4).f4.f4)) ∧ w'.cell? ⟨(d_1.add ((x6_4).toNat * 13)).block, (d_1.add ((x6_4).toNat * 13)).off + 11, none⟩ = some (.int .i64 ((Y7 l0_1 x6_4).f4.f5)) ∧ w'.cell? ⟨(d_1.add ((x6_4).toNat * 13)).block, (d_1.add ((x6_4).toNat * 13)).off + 12, none⟩ = some (.int .i64 ((Y7 l0_1 x6_4).f4.f6))) (ds := []) #[false, false, false, false, false, false, false, false, false] (by kernel_rfl) rfl rfl ⟨(Y1 B_0.out 0).trans rfl, (Y1 B_0.out 1).trans rfl, (hbC HB q_b), (hbC HB q_3), (hbC HB q_5), (hbC HB q_8), (hbC HB q_k), (hbC HB q_4), (hbC HB q_0), (hbC HB q_r), (hbC HB q_6), (hbC HB q_10), (hbC HB q_m), (hbC HB q_f), (hbC HB q_y)⟩ (fun hHeld => ?_); refine Y10 Y9.tab19 Y9.bits19 (fun HT_ HW_ => ?_)
               generalize wr.drew = w39 at B_0 HB m_10 m_11 m_z m_12 m_r m_s m_w m_v m_x m_t m_u m_q m_y hHeld ⊢
               refine puA 0 64 (bs 9 1) ?_
               refine puA 2 66 (bs 9 5) ?_
               refine puA 4 68 (bs 9 21) ?_
               refine tkA 1 65 (bs 9 23) hHeld ?_
               refine tkA 3 67 (bs 9 31) hHeld ?_
               refine puA 5 69 (bs 9 63) ?_
               refine tkA 6 70 (bs 9 127) hHeld ?_
               refine one_ (i := 7) (N := some 71) (bs 9 255) rfl rfl (YZ HT_.out (by kernel_rfl)) (by decide) (fun K hK => ?_)
               refine goes_ Try.func63 (by kernel_rfl) rfl #[.slice (some d_1) l0_1.length c0_1, .agg #[.int .i64 ((Y7 l0_1 x6_4).f0.f0), .int .i64 ((Y7 l0_1 x6_4).f0.f1), .int .i64 ((Y7 l0_1 x6_4).f1), .int .i64 ((Y7 l0_1 x6_4).f2.f0), .int .i64 ((Y7 l0_1 x6_4).f2.f1), .bool ((Y7 l0_1 x6_4).f3), .int .i64 ((Y7 l0_1 x6_4).f4.f0), .int .i64 ((Y7 l0_1 x6_4).f4.f1), .int .i64 ((Y7 l0_1 x6_4).f4.f2), .int .i64 ((Y7 l0_1 x6_4).f4.f3), .int .i64 ((Y7 l0_1 x6_4).f4.f4), .int .i64 ((Y7 l0_1 x6_4).f4.f5), .int .i64 ((Y7 l0_1 x6_4).f4.f6)]] (by rfl) rfl rfl (by (try simp only [List.map_toArray, List.map_cons, List.map_nil]); first | done | rfl | (simp only [List.length_drop, List.length_take]; rfl)) ?_
               with_reducible refine (Ym.calls k4 _ _ l0_1 ((Y7 l0_1 x6_4).f0.f0) ((Y7 l0_1 x6_4).f0.f1) ((Y7 l0_1 x6_4).f1) ((Y7 l0_1 x6_4).f2.f0) ((Y7 l0_1 x6_4).f2.f1) ((Y7 l0_1 x6_4).f3) ((Y7 l0_1 x6_4).f4.f0) ((Y7 l0_1 x6_4).f4.f1) ((Y7 l0_1 x6_4).f4.f2) ((Y7 l0_1 x6_4).f4.f3) ((Y7 l0_1 x6_4).f4.f4) ((Y7 l0_1 x6_4).f4.f5) ((Y7 l0_1 x6_4).f4.f6) true _ ?side1 ?side2 A36.out).mono ?_
               (case side1 => repeat (first | exact (Kd.C_below HR0_1.out HB.out) | (with_reducible refine Kd.C_alloc ?_ _) | (with_reducible refine Kd.C_drewN ?_ _) | (with_reducible refine Kd.C_drew ?_)))
               (case side2 => exact HC0_1.out)
               rintro e w40 ⟨rfl, hb⟩
               refine ⟨_, rfl, ?_⟩
               replace B_0 := Y0.mk (Y2 (bU B_0.out) hb)
               replace HB := Y0.mk (Y4 (hU HB.out) hb)
               (try clear hb)
               (try clear hb2)
               (try clear hk)
               (try clear hi)
               refine hK.out _ _ ⟨(Y1 B_0.out 0).trans rfl, (Y1 B_0.out 1).trans rfl, (hbC HB q_b), (hbC HB q_3), (hbC HB q_5), (hbC HB q_8), (hbC HB q_k), (hbC HB q_4), (hbC HB q_0), (hbC HB q_r), (hbC HB q_6), (hbC HB q_10), (hbC HB q_m), (hbC HB q_f), (hbC HB q_y)⟩ (fun hHeld => ?_)
               clear hK K
               refine nmA 71 ?_
               refine puA 8 72 (bs 9 511) ?_
               refine done_ (Y1h HT_.out (by kernel_rfl)) ?_
               try go_wp2
               go_roundg k4
               case measure => have := HJ1.out; have := HK2.out; have := HK3.out; have := HK4.out; omega
               case rel => exact ⟨(wrap64 (x6_4 + 1)), reS, H', ⟨by have := HJ1.out; have := HK2.out; have := HK3.out; have := HK4.out; omega⟩, ⟨kB B_0⟩, ⟨hU HB.out⟩⟩
              ·replace c37 := Bool.eq_false_iff.mpr c37
               subst c37
               have H1 : (some 6) = some r := by rw [if_neg (show ¬ (false = true) by decide)] at H; exact H
               clear H
               have H := H1
               clear H1
               obtain rfl := Option.some.inj H
               have z_h := Y1 B_0.out
               have f_k := Y3 B_0.out
               try go_wp2
               replace B_0 := Y0.mk (Y8 B_0.out)
               replace HB := Y0.mk (Yy HB.out)
               have p495 : 0 ≤ (x6_4 : Int) := of_decide_eq_true (by first | (with_reducible assumption) | assumption)
               have q495 : x6_4 < (l0_1.length : Int) := of_decide_eq_true (by first | (with_reducible assumption) | assumption)
               obtain ⟨d_1, e495, m_10, m_11, m_s, m_w, m_v, m_x, m_t, m_u, m_q, m_y, m_z, m_12, m_r⟩ := Y1m HR0_1.out x6_4 p495 q495
               have q_y := m_r
               have q_f := m_12
               have q_m := m_z
               have q_10 := m_y
               have q_6 := m_q
               have q_r := m_u
               have q_0 := m_t
               have q_4 := m_x
               have q_k := m_v
               have q_8 := m_w
               have q_5 := m_s
               have q_3 := m_11
               have q_b := m_10
               cases e495
               replace m_10 := hbC HB m_10
               replace m_11 := hbC HB m_11
               replace m_s := hbC HB m_s
               replace m_w := hbC HB m_w
               replace m_v := hbC HB m_v
               replace m_x := hbC HB m_x
               replace m_t := hbC HB m_t
               replace m_u := hbC HB m_u
               replace m_q := hbC HB m_q
               replace m_y := hbC HB m_y
               replace m_z := hbC HB m_z
               replace m_12 := hbC HB m_12
               replace m_r := hbC HB m_r
               replace p495 := eq_true p495
               replace q495 := eq_true q495
               refine Y1i (n := 9) (S := fun w' => w'.cell? ⟨g_0, 0, none⟩ = some (.int .i64 a0_0) ∧ w'.cell? ⟨g_0, 1, none⟩ = some (.slice (some d_1) l0_1.length c0_1) ∧ w'.cell? (d_1.add ((x6_4).toNat * 13)) = some (.int .i64 ((Y7 l0_1 x6_4).f0.f0)) ∧ w'.cell? ⟨(d_1.add ((x6_4).toNat * 13)).block, (d_1.add ((x6_4).toNat * 13)).off + 1, none⟩ = some (.int .i64 ((Y7 l0_1 x6_4).f0.f1)) ∧ w'.cell? ⟨(d_1.add ((x6_4).toNat * 13)).block, (d_1.add ((x6_4).toNat * 13)).off + 2, none⟩ = some (.int .i64 ((Y7 l0_1 x6_4).f1)) ∧ w'.cell? ⟨(d_1.add ((x6_4).toNat * 13)).block, (d_1.add ((x6_4).toNat * 13)).off + 3, none⟩ = some (.int .i64 ((Y7 l0_1 x6_4).f2.f0)) ∧ w'.cell? ⟨(d_1.add ((x6_4).toNat * 13)).block, (d_1.add ((x6_4).toNat * 13)).off + 4, none⟩ = some (.int .i64 ((Y7 l0_1 x6_4).f2.f1)) ∧ w'.cell? ⟨(d_1.add ((x6_4).toNat * 13)).block, (d_1.add ((x6_4).toNat * 13)).off + 5, none⟩ = some (.bool ((Y7 l0_1 x6_4).f3)) ∧ w'.cell? ⟨(d_1.add ((x6_4).toNat * 13)).block, (d_1.add ((x6_4).toNat * 13)).off + 6, none⟩ = some (.int .i64 ((Y7 l0_1 x6_4).f4.f0)) ∧ w'.cell? ⟨(d_1.add ((x6_4).toNat * 13)).block, (d_1.add ((x6_4).toNat * 13)).off + 7, none⟩ = some (.int .i64 ((Y7 l0_1 x6_4).f4.f1)) ∧ w'.cell? ⟨(d_1.add ((x6_4).toNat * 13)).block, (d_1.add ((x6_4).toNat * 13)).off + 8, none⟩ = some (.int .i64 ((Y7 l0_1 x6_4).f4.f2)) ∧ w'.cell? ⟨(d_1.add ((x6_4).toNat * 13)).block, (d_1.add ((x6_4).toNat * 13)).off + 9, none⟩ = some (.int .i64 ((Y7 l0_1 x6_4).f4.f3)) ∧ w'.cell? ⟨(d_1.add ((x6_4).toNat * 13)).block, (d_1.add ((x6_4).toNat * 13)).off + 10, none⟩ = some (.int .i64 ((Y7 l0_1 x6_4).f4.f4)) ∧ w'.cell? ⟨(d_1.add ((x6_4).toNat * 13)).block, (d_1.add ((x6_4).toNat * 13)).off + 11, none⟩ = some (.int .i64 ((Y7 l0_1 x6_4).f4.f5)) ∧ w'.cell? ⟨(d_1.add ((x6_4).toNat * 13)).block, (d_1.add ((x6_4).toNat * 13)).off + 12, none⟩ = some (.int .i64 ((Y7 l0_1 x6_4).f4.f6))) (ds := []) #[false, false, false, false, false, false, false, false, false] (by kernel_rfl) rfl rfl ⟨(Y1 B_0.out 0).trans rfl, (Y1 B_0.out 1).trans rfl, (hbC HB q_b), (hbC HB q_3), (hbC HB q_5), (hbC HB q_8), (hbC HB q_k), (hbC HB q_4), (hbC HB q_0), (hbC HB q_r), (hbC HB q_6), (hbC HB q_10), (hbC HB q_m), (hbC HB q_f), (hbC HB q_y)⟩ (fun hHeld => ?_); refine Y10 Y9.tab19 Y9.bits19 (fun HT_ HW_ => ?_)
               generalize wr.drew = w42 at B_0 HB m_10 m_11 m_z m_12 m_r m_s m_w m_v m_x m_t m_u m_q m_y hHeld ⊢
               refine puA 0 64 (bs 9 1) ?_
               refine puA 2 66 (bs 9 5) ?_
               refine puA 4 68 (bs 9 21) ?_
               refine tkA 1 65 (bs 9 23) hHeld ?_
               refine tkA 3 67 (bs 9 31) hHeld ?_
               refine puA 5 69 (bs 9 63) ?_
               refine tkA 6 70 (bs 9 127) hHeld ?_
               refine one_ (i := 7) (N := some 71) (bs 9 255) rfl rfl (YZ HT_.out (by kernel_rfl)) (by decide) (fun K hK => ?_)
               refine goes_ Try.func63 (by kernel_rfl) rfl #[.slice (some d_1) l0_1.length c0_1, .agg #[.int .i64 ((Y7 l0_1 x6_4).f0.f0), .int .i64 ((Y7 l0_1 x6_4).f0.f1), .int .i64 ((Y7 l0_1 x6_4).f1), .int .i64 ((Y7 l0_1 x6_4).f2.f0), .int .i64 ((Y7 l0_1 x6_4).f2.f1), .bool ((Y7 l0_1 x6_4).f3), .int .i64 ((Y7 l0_1 x6_4).f4.f0), .int .i64 ((Y7 l0_1 x6_4).f4.f1), .int .i64 ((Y7 l0_1 x6_4).f4.f2), .int .i64 ((Y7 l0_1 x6_4).f4.f3), .int .i64 ((Y7 l0_1 x6_4).f4.f4), .int .i64 ((Y7 l0_1 x6_4).f4.f5), .int .i64 ((Y7 l0_1 x6_4).f4.f6)]] (by rfl) rfl rfl (by (try simp only [List.map_toArray, List.map_cons, List.map_nil]); first | done | rfl | (simp only [List.length_drop, List.length_take]; rfl)) ?_
               with_reducible refine (Ym.calls k4 _ _ l0_1 ((Y7 l0_1 x6_4).f0.f0) ((Y7 l0_1 x6_4).f0.f1) ((Y7 l0_1 x6_4).f1) ((Y7 l0_1 x6_4).f2.f0) ((Y7 l0_1 x6_4).f2.f1) ((Y7 l0_1 x6_4).f3) ((Y7 l0_1 x6_4).f4.f0) ((Y7 l0_1 x6_4).f4.f1) ((Y7 l0_1 x6_4).f4.f2) ((Y7 l0_1 x6_4).f4.f3) ((Y7 l0_1 x6_4).f4.f4) ((Y7 l0_1 x6_4).f4.f5) ((Y7 l0_1 x6_4).f4.f6) false _ ?side1 ?side2 A36.out).mono ?_
               (case side1 => repeat (first | exact (Kd.C_below HR0_1.out HB.out) | (with_reducible refine Kd.C_alloc ?_ _) | (with_reducible refine Kd.C_drewN ?_ _) | (with_reducible refine Kd.C_drew ?_)))
               (case side2 => exact HC0_1.out)
               rintro e w43 ⟨rfl, hb⟩
               refine ⟨_, rfl, ?_⟩
               replace B_0 := Y0.mk (Y2 (bU B_0.out) hb)
               replace HB := Y0.mk (Y4 (hU HB.out) hb)
               (try clear hb)
               (try clear hb2)
               (try clear hk)
               (try clear hi)
               refine hK.out _ _ ⟨(Y1 B_0.out 0).trans rfl, (Y1 B_0.out 1).trans rfl, (hbC HB q_b), (hbC HB q_3), (hbC HB q_5), (hbC HB q_8), (hbC HB q_k), (hbC HB q_4), (hbC HB q_0), (hbC HB q_r), (hbC HB q_6), (hbC HB q_10), (hbC HB q_m), (hbC HB q_f), (hbC HB q_y)⟩ (fun hHeld => ?_)
               clear hK K
               refine nmA 71 ?_
               refine puA 8 72 (bs 9 511) ?_
               refine done_ (Y1h HT_.out (by kernel_rfl)) ?_
               try go_wp2
               go_ret
               exact ⟨reT, hU HB.out⟩
             ·rw [if_neg c34] at H
              have c34b0 := decide_eq_false c34
              clear c34
              obtain rfl := Option.some.inj H
              have z_m := Y1 B_0.out
              have f_m := Y3 B_0.out
              go_wp2
              go_ret
              exact ⟨reT, hU HB.out⟩
end Go.Proofs.Yteopkkoblbmggaa.P
end

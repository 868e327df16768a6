/- Texts of this claim in one: VP50, VP51, VLays; no condition. -/
import Derived.Test.YteopkkoblbmggaaQBAD
import Derived.Test.YteopkkoblbmggaaQBAG
import Derived.Test.YteopkkoblbmggaaQBAE
import Derived.Shelf.SlSortCmp.WholeK
import Derived.Deep.Light
section
namespace Go.Proofs.Yteopkkoblbmggaa.P
open Go.RowKit Go.Proofs.YteopkkoblbmggaaW.PrintWords Go.Proofs.YteopkkoblbmggaaW.PrintLast Go.Proofs.YteopkkoblbmggaaW.PrintMore
attribute [local go_sem] YR YT Y11 Y12 YL YM YS YU
set_option linter.unusedVariables false
set_option linter.unusedSimpArgs false
def cmp_Or_int.l0 : Nat → Int → List Int → Int → Int → Option (Int)
 | 0, _, _, _, _ => none
 | k + 1, x3, x6, x7, x8 => if x8 < x7 then (if 0 ≤ x8 then (if x8 < (x6.length : Int) then (if (rd x6 x8) = x3 then (cmp_Or_int.l0 k x3 x6 x7 (wrap64 (x8 + 1))) else (some (rd x6 x8))) else (none)) else (none)) else (some x3)
def cmp_Or_int.f (k : Nat) (l0 : List Int) : Option (Int) := cmp_Or_int.l0 k 0 l0 (l0.length : Int) 0
theorem cmp_Or_int.mono_l : ∀ k, (∀ y0 y1 y2 y3, LeO (cmp_Or_int.l0 k y0 y1 y2 y3) (cmp_Or_int.l0 (k + 1) y0 y1 y2 y3))
 | 0 => fun _ _ _ _ r h => by simp [cmp_Or_int.l0] at h
 | k + 1 => by
  have ih0 := cmp_Or_int.mono_l k
  ·intro y0 y1 y2 y3
   unfold cmp_Or_int.l0
   repeat' first
   | (with_reducible exact ih0 _ _ _ _)
   | (with_reducible exact LeO.refl _)
   | (with_reducible exact LeO.none _)
   | (with_reducible refine LeO.ite ?_ ?_)
   | (with_reducible refine LeO.bind ?_ (fun _ => ?_))
theorem cmp_Or_int.mono : ∀ a0 k, LeO (cmp_Or_int.f k a0) (cmp_Or_int.f (k + 1) a0) := by
 intro a0 k
 have ih0 := cmp_Or_int.mono_l k
 unfold cmp_Or_int.f
 repeat' first
   | (with_reducible exact ih0 _ _ _ _)
   | (with_reducible exact LeO.refl _)
   | (with_reducible exact LeO.none _)
   | (with_reducible refine LeO.ite ?_ ?_)
   | (with_reducible refine LeO.bind ?_ (fun _ => ?_))
set_option maxHeartbeats 8000000 in
set_option maxRecDepth 100000 in
theorem cmp_Or_int.calls (k : Nat) (A0 : Option Addr) (c0 : Nat) (l0 : List Int) (r : Int) (w : World) (hr0 : Kd.C (Kd.int .i64) w A0 l0.length l0) (hc0 : l0.length ≤ c0) (h : cmp_Or_int.f k l0 = some r) :
  Calls Try.prog 104 #[.slice A0 l0.length c0] w fun e w' => e = .returned (.int .i64 r) ∧ Drawn0 w w' := by
 have HR0 := Y0.mk hr0
 have HC0 := Y0.mk hc0
 clear hr0 hc0
 have H : (cmp_Or_int.l0 k 0 l0 (l0.length : Int) 0) = some r := h
 clear h
 have H' := Y0.mk H
 clear H
 go_enter Try.func104, Try.ntmps104
 go_wp2
 go_loopg [8] k (fun kq v8 w' => ∃ (x8_1 : Int), v8 = .int .i64 x8_1 ∧ Y0 (cmp_Or_int.l0 kq 0 l0 (l0.length : Int) x8_1 = some r) ∧ Y0 (kq ≤ k) ∧ Drawn0 w w')
 case atStart => exact ⟨(0), reS, H', ⟨Nat.le_refl _⟩, dS⟩
 case round =>
  clear H'
  try clear c1
  obtain ⟨x8_1, rfl, HA, HK1, ⟨m1, rfl⟩⟩ := hrel
  cases gk with
  | zero => exact absurd HA.out (by simp [cmp_Or_int.l0])
  | succ k1 =>
   have H := HA.out
   clear HA
   simp only [cmp_Or_int.l0] at H
   by_cases c2 : x8_1 < (l0.length : Int)
   ·rw [if_pos c2] at H
    have c2b0 := decide_eq_true c2
    clear c2
    obtain ⟨c3, H⟩ := iS H
    have c3b0 := decide_eq_true c3
    clear c3
    obtain ⟨c4, H⟩ := iS H
    have c4b0 := decide_eq_true c4
    clear c4
    by_cases c5 : (rd l0 x8_1) = 0
    ·rw [if_pos c5] at H
     have c5b0 := bqT c5
     have c5b1 := bnF c5
     clear c5
     have H' := Y0.mk H
     clear H
     have p897 : 0 ≤ (x8_1 : Int) := of_decide_eq_true (by first | (with_reducible assumption) | assumption)
     have q897 : x8_1 < (l0.length : Int) := of_decide_eq_true (by first | (with_reducible assumption) | assumption)
     obtain ⟨d_0, e897, m_0⟩ := Kd.at_int HR0.out x8_1 p897 q897
     cases e897
     replace p897 := eq_true p897
     replace q897 := eq_true q897
     go_wp2
     go_roundg k1
     case measure => have := HK1.out; omega
     case rel => exact ⟨(wrap64 (x8_1 + 1)), reS, H', ⟨by have := HK1.out; omega⟩, dS⟩
    ·rw [if_neg c5] at H
     have c5b0 := bqF c5
     have c5b1 := bnT c5
     obtain rfl := Option.some.inj H
     have p897 : 0 ≤ (x8_1 : Int) := of_decide_eq_true (by first | (with_reducible assumption) | assumption)
     have q897 : x8_1 < (l0.length : Int) := of_decide_eq_true (by first | (with_reducible assumption) | assumption)
     obtain ⟨d_0, e897, m_0⟩ := Kd.at_int HR0.out x8_1 p897 q897
     cases e897
     replace p897 := eq_true p897
     replace q897 := eq_true q897
     go_wp2
     go_ret
     exact ⟨reS, dS⟩
   ·rw [if_neg c2] at H
    have c2b0 := decide_eq_false c2
    clear c2
    obtain rfl := Option.some.inj H
    go_wp2
    go_ret
    exact ⟨reS, dS⟩
def cmp_isNaN_int.f (a0 : Int) : Option (Bool) := some (a0 != a0)
set_option maxHeartbeats 8000000 in
set_option maxRecDepth 100000 in
theorem cmp_isNaN_int.calls (a0 : Int) (r : Bool) (w : World) (h : cmp_isNaN_int.f a0 = some r) :
  Calls Try.prog 140 #[.int .i64 a0] w fun e w' => e = .returned (.bool r) ∧ Drawn0 w w' := by
 have H : (some (a0 != a0)) = some r := h
 clear h
 obtain rfl := Option.some.inj H
 go_enter Try.func140, Try.ntmps140
 go_wp2
 go_ret
 exact ⟨reS, dS⟩
def cmp_Compare_int.f (a0 : Int) (a1 : Int) : Option (Int) := (cmp_isNaN_int.f a0).bind fun t_1 => ((cmp_isNaN_int.f a1).bind fun t_0 => (if t_1 = true then (if t_0 = true then (some 0) else (some (-1))) else (if t_0 = true then (some 1) else (if a0 < a1 then (some (-1)) else (if a0 > a1 then (some 1) else (some 0))))))
set_option maxHeartbeats 8000000 in
set_option maxRecDepth 100000 in
theorem cmp_Compare_int.calls (a0 : Int) (a1 : Int) (r : Int) (w : World) (h : cmp_Compare_int.f a0 a1 = some r) :
  Calls Try.prog 105 #[.int .i64 a0, .int .i64 a1] w fun e w' => e = .returned (.int .i64 r) ∧ Drawn0 w w' := by
 have H : ((cmp_isNaN_int.f a0).bind fun t_1 => ((cmp_isNaN_int.f a1).bind fun t_0 => (if t_1 = true then (if t_0 = true then (some 0) else (some (-1))) else (if t_0 = true then (some 1) else (if a0 < a1 then (some (-1)) else (if a0 > a1 then (some 1) else (some 0))))))) = some r := h
 clear h
 obtain ⟨t_1, A30, H⟩ := bS H
 try dsimp only at H
 have A3 := Y0.mk A30
 clear A30
 obtain ⟨t_0, A40, H⟩ := bS H
 try dsimp only at H
 have A4 := Y0.mk A40
 clear A40
 by_cases c5 : t_1 = true
 ·subst c5
  have H1 : (if t_0 = true then (some 0) else (some (-1))) = some r := by rw [if_pos rfl] at H; exact H
  clear H
  have H := H1
  clear H1
  by_cases c6 : t_0 = true
  ·subst c6
   have H1 : (some 0) = some r := by rw [if_pos rfl] at H; exact H
   clear H
   have H := H1
   clear H1
   obtain rfl := Option.some.inj H
   go_enter Try.func105, Try.ntmps105
   go_wp2_with (first | ((with_reducible refine Yd (f := 140) rfl ?_); refine goesA (some 8) Try.func140 #[.int .i64 a0] ?_; (with_reducible refine (cmp_isNaN_int.calls a0 true _ A3.out).mono ?_); rintro e w' ⟨rfl, ⟨nd, rfl⟩⟩; refine ⟨_, rfl, ?_⟩) | ((with_reducible refine Yd (f := 140) rfl ?_); refine goesA (some 10) Try.func140 #[.int .i64 a1] ?_; (with_reducible refine (cmp_isNaN_int.calls a1 true _ A4.out).mono ?_); rintro e w' ⟨rfl, ⟨nd, rfl⟩⟩; refine ⟨_, rfl, ?_⟩))
   go_ret
   exact ⟨reS, dS⟩
  ·replace c6 := Bool.eq_false_iff.mpr c6
   subst c6
   have H1 : (some (-1)) = some r := by rw [if_neg (show ¬ (false = true) by decide)] at H; exact H
   clear H
   have H := H1
   clear H1
   obtain rfl := Option.some.inj H
   go_enter Try.func105, Try.ntmps105
   go_wp2_with (first | ((with_reducible refine Yd (f := 140) rfl ?_); refine goesA (some 8) Try.func140 #[.int .i64 a0] ?_; (with_reducible refine (cmp_isNaN_int.calls a0 true _ A3.out).mono ?_); rintro e w' ⟨rfl, ⟨nd, rfl⟩⟩; refine ⟨_, rfl, ?_⟩) | ((with_reducible refine Yd (f := 140) rfl ?_); refine goesA (some 10) Try.func140 #[.int .i64 a1] ?_; (with_reducible refine (cmp_isNaN_int.calls a1 false _ A4.out).mono ?_); rintro e w' ⟨rfl, ⟨nd, rfl⟩⟩; refine ⟨_, rfl, ?_⟩))
   go_ret
   exact ⟨reS, dS⟩
 ·replace c5 := Bool.eq_false_iff.mpr c5
  subst c5
  have H1 : (if t_0 = true then (some 1) else (if a0 < a1 then (some (-1)) else (if a0 > a1 then (some 1) else (some 0)))) = some r := by rw [if_neg (show ¬ (false = true) by decide)] at H; exact H
  clear H
  have H := H1
  clear H1
  by_cases c7 : t_0 = true
  ·subst c7
   have H1 : (some 1) = some r := by rw [if_pos rfl] at H; exact H
   clear H
   have H := H1
   clear H1
   obtain rfl := Option.some.inj H
   go_enter Try.func105, Try.ntmps105
   go_wp2_with (first | ((with_reducible refine Yd (f := 140) rfl ?_); refine goesA (some 8) Try.func140 #[.int .i64 a0] ?_; (with_reducible refine (cmp_isNaN_int.calls a0 false _ A3.out).mono ?_); rintro e w' ⟨rfl, ⟨nd, rfl⟩⟩; refine ⟨_, rfl, ?_⟩) | ((with_reducible refine Yd (f := 140) rfl ?_); refine goesA (some 10) Try.func140 #[.int .i64 a1] ?_; (with_reducible refine (cmp_isNaN_int.calls a1 true _ A4.out).mono ?_); rintro e w' ⟨rfl, ⟨nd, rfl⟩⟩; refine ⟨_, rfl, ?_⟩))
   go_ret
   exact ⟨reS, dS⟩
  ·replace c7 := Bool.eq_false_iff.mpr c7
   subst c7
   have H1 : (if a0 < a1 then (some (-1)) else (if a0 > a1 then (some 1) else (some 0))) = some r := by rw [if_neg (show ¬ (false = true) by decide)] at H; exact H
   clear H
   have H := H1
   clear H1
   by_cases c8 : a0 < a1
   ·rw [if_pos c8] at H
    have c8b0 := decide_eq_true c8
    clear c8
    obtain rfl := Option.some.inj H
    go_enter Try.func105, Try.ntmps105
    go_wp2_with (first | ((with_reducible refine Yd (f := 140) rfl ?_); refine goesA (some 8) Try.func140 #[.int .i64 a0] ?_; (with_reducible refine (cmp_isNaN_int.calls a0 false _ A3.out).mono ?_); rintro e w' ⟨rfl, ⟨nd, rfl⟩⟩; refine ⟨_, rfl, ?_⟩) | ((with_reducible refine Yd (f := 140) rfl ?_); refine goesA (some 10) Try.func140 #[.int .i64 a1] ?_; (with_reducible refine (cmp_isNaN_int.calls a1 false _ A4.out).mono ?_); rintro e w' ⟨rfl, ⟨nd, rfl⟩⟩; refine ⟨_, rfl, ?_⟩))
    go_ret
    exact ⟨reS, dS⟩
   ·rw [if_neg c8] at H
    have c8b0 := decide_eq_false c8
    clear c8
    by_cases c9 : a0 > a1
    ·rw [if_pos c9] at H
     have c9b0 := decide_eq_true c9
     clear c9
     obtain rfl := Option.some.inj H
     go_enter Try.func105, Try.ntmps105
     go_wp2_with (first | ((with_reducible refine Yd (f := 140) rfl ?_); refine goesA (some 8) Try.func140 #[.int .i64 a0] ?_; (with_reducible refine (cmp_isNaN_int.calls a0 false _ A3.out).mono ?_); rintro e w' ⟨rfl, ⟨nd, rfl⟩⟩; refine ⟨_, rfl, ?_⟩) | ((with_reducible refine Yd (f := 140) rfl ?_); refine goesA (some 10) Try.func140 #[.int .i64 a1] ?_; (with_reducible refine (cmp_isNaN_int.calls a1 false _ A4.out).mono ?_); rintro e w' ⟨rfl, ⟨nd, rfl⟩⟩; refine ⟨_, rfl, ?_⟩))
     go_ret
     exact ⟨reS, dS⟩
    ·rw [if_neg c9] at H
     have c9b0 := decide_eq_false c9
     clear c9
     obtain rfl := Option.some.inj H
     go_enter Try.func105, Try.ntmps105
     go_wp2_with (first | ((with_reducible refine Yd (f := 140) rfl ?_); refine goesA (some 8) Try.func140 #[.int .i64 a0] ?_; (with_reducible refine (cmp_isNaN_int.calls a0 false _ A3.out).mono ?_); rintro e w' ⟨rfl, ⟨nd, rfl⟩⟩; refine ⟨_, rfl, ?_⟩) | ((with_reducible refine Yd (f := 140) rfl ?_); refine goesA (some 10) Try.func140 #[.int .i64 a1] ?_; (with_reducible refine (cmp_isNaN_int.calls a1 false _ A4.out).mono ?_); rintro e w' ⟨rfl, ⟨nd, rfl⟩⟩; refine ⟨_, rfl, ?_⟩))
     go_ret
     exact ⟨reS, dS⟩
def YE.f (k : Nat) (a0_0 : Int) (a0_1 : Int) (a0_2 : Int) (a0_3 : Int) (a0_4 : Int) (a0_5 : Int) (a0_6 : Int) (a1_0 : Int) (a1_1 : Int) (a1_2 : Int) (a1_3 : Int) (a1_4 : Int) (a1_5 : Int) (a1_6 : Int) : Option (Bool) := (cmp_Compare_int.f a0_2 a1_2).bind fun t_1 => ((cmp_Compare_int.f a0_1 a1_1).bind fun t_0 => ((cmp_Or_int.f k (([t_1, t_0] : List Int))).bind fun t_2 => (some (decide (t_2 < 0)))))
theorem YE.mono : ∀ a0 a1 a2 a3 a4 a5 a6 a7 a8 a9 a10 a11 a12 a13 k, LeO (YE.f k a0 a1 a2 a3 a4 a5 a6 a7 a8 a9 a10 a11 a12 a13) (YE.f (k + 1) a0 a1 a2 a3 a4 a5 a6 a7 a8 a9 a10 a11 a12 a13) := by
 intro a0 a1 a2 a3 a4 a5 a6 a7 a8 a9 a10 a11 a12 a13 k
 unfold YE.f
 repeat' first
   | (with_reducible exact cmp_Or_int.mono _ _)
   | (with_reducible exact LeO.refl _)
   | (with_reducible exact LeO.none _)
   | (with_reducible refine LeO.ite ?_ ?_)
   | (with_reducible refine LeO.bind ?_ (fun _ => ?_))
def YE.T1 : Bool × List (List Nat × List Nat) := (true, [([], []), ([0], [0]), ([], []), ([2], [2]), ([1, 3], [1, 3]), ([], []), ([5], [5]), ([], []), ([7], [7]), ([6, 8, 4], [6, 8]), ([4, 9], [4, 9]), ([10, 9], [10]), ([11], [11]), ([12, 11, 0, 1, 2, 3, 4, 5, 6, 7, 8, 9, 10, 11, 12], [12])])
def YE.B1 : List Nat := [0, 1, 0, 4, 15, 0, 32, 0, 128, 511, 1023, 2047, 4095, 8191]
theorem YE.tab1 : rtab .any (opsOf Try.f70 1) = YE.T1 := by kernel_rfl
theorem YE.bits1 : Y1d YE.T1.2 YE.B1 = true := by kernel_rfl
set_option maxHeartbeats 8000000 in
set_option maxRecDepth 100000 in
theorem YE.calls (k : Nat) (a0_0 : Int) (a0_1 : Int) (a0_2 : Int) (a0_3 : Int) (a0_4 : Int) (a0_5 : Int) (a0_6 : Int) (a1_0 : Int) (a1_1 : Int) (a1_2 : Int) (a1_3 : Int) (a1_4 : Int) (a1_5 : Int) (a1_6 : Int) (r : Bool) (w : World) (h : YE.f k a0_0 a0_1 a0_2 a0_3 a0_4 a0_5 a0_6 a1_0 a1_1 a1_2 a1_3 a1_4 a1_5 a1_6 = some r) :
  Calls Try.prog 70 #[.agg #[.int .i64 a0_0, .int .i64 a0_1, .int .i64 a0_2, .int .i64 a0_3, .int .i64 a0_4, .int .i64 a0_5, .int .i64 a0_6], .agg #[.int .i64 a1_0, .int .i64 a1_1, .int .i64 a1_2, .int .i64 a1_3, .int .i64 a1_4, .int .i64 a1_5, .int .i64 a1_6]] w fun e w' => e = .returned (.bool r) ∧ Below w.heap.size w w' := by
 have hu28 := Try.underlying28
 have HB := Y0.mk (Below.refl w.heap.size w)
 have H : ((cmp_Compare_int.f a0_2 a1_2).bind fun t_1 => ((cmp_Compare_int.f a0_1 a1_1).bind fun t_0 => ((cmp_Or_int.f k (([t_1, t_0] : List Int))).bind fun t_2 => (some (decide (t_2 < 0)))))) = some r := h
 clear h
 obtain ⟨t_1, A30, H⟩ := bS H
 replace H : ((cmp_Compare_int.f a0_1 a1_1).bind fun t_0 => ((cmp_Or_int.f k (([t_1, t_0] : List Int))).bind fun t_2 => (some (decide (t_2 < 0))))) = some r := H
 have A3 := Y0.mk A30
 clear A30
 obtain ⟨t_0, A40, H⟩ := bS H
 replace H : ((cmp_Or_int.f k (([t_1, t_0] : List Int))).bind fun t_2 => (some (decide (t_2 < 0)))) = some r := H
 have A4 := Y0.mk A40
 clear A40
 obtain ⟨y904, hy904⟩ : ∃ y_ : List Int, y_ = (([t_1, t_0] : List Int)) := ⟨_, rfl⟩
 replace H : ((cmp_Or_int.f k y904).bind fun t_2 => (some (decide (t_2 < 0)))) = some r := by first | (rw [hy904]; with_reducible exact H) | (have H2_ := (Option.bind_some _ _).symm.trans H; rw [hy904]; with_reducible exact H2_) | (have H2_ := (Option.bind_some _ _).symm.trans H; with_reducible exact H2_) | with_reducible exact H | (rw [hy904]; exact H) | exact H
 have Ny904 := Y0.mk hy904
 clear hy904
 obtain ⟨t_2, A50, H⟩ := bS H
 replace H : (some (decide (t_2 < 0))) = some r := H
 have A5 := Y0.mk A50
 clear A50
 obtain rfl := Option.some.inj H
 go_enter Try.func70, Try.ntmps70
 try go_wp2_with (first | ((with_reducible refine Ye (N := 2) rfl ?_); refine Yf ?hg (N := 2) ?hd (cs := #[.int .i64 a0_0, .int .i64 a0_1, .int .i64 a0_2, .int .i64 a0_3, .int .i64 a0_4, .int .i64 a0_5, .int .i64 a0_6]) (t := 28) ?hr ?_; (case hd => rfl); (case hg => rfl); (case hr => first | (go_simp; done) | (go_simp; rfl)); intro g_0 hg w6 hbox hb; have n0_ := Y0.mk (Y5 (hU HB.out) hb); have n1_ := Y0.mk (hbox); have n2_ := gE hg HB; have n3_ := gE hg HB; clear HB; have HB := n0_; have B_0 := n1_; have W_0 := n2_; have G_0 := n3_; clear n0_ n1_ n2_ n3_; clear hb hbox hg) | ((with_reducible refine Ye (N := 3) rfl ?_); refine Yf ?hg (N := 3) ?hd (cs := #[.int .i64 a1_0, .int .i64 a1_1, .int .i64 a1_2, .int .i64 a1_3, .int .i64 a1_4, .int .i64 a1_5, .int .i64 a1_6]) (t := 28) ?hr ?_; (case hd => rfl); (case hg => rfl); (case hr => first | (go_simp; done) | (go_simp; rfl)); intro g_1 hg w7 hbox hb; have n0_ := Y0.mk (Y3 (bU B_0.out) hb); have n1_ := Y0.mk (Y5 (hU HB.out) hb); have n2_ := Y0.mk (hbox); have n3_ := gE hg HB; have n4_ := gE hg HB; have n5_ := gL hg B_0; have n6_ := gG hg B_0; clear B_0; clear HB; have B_0 := n0_; have HB := n1_; have B_1 := n2_; have W_1 := n3_; have G_1 := n4_; have N_0 := n5_; have N_1 := n6_; clear n0_ n1_ n2_ n3_ n4_ n5_ n6_; clear hb hbox hg))
 replace B_0 := Y0.mk (Y7 B_0.out)
 replace B_1 := Y0.mk (Y7 B_1.out)
 replace HB := Y0.mk (Yv HB.out)
 refine Y19 (n := 14) (S := fun w' => w'.cell? ⟨g_0, 0, none⟩ = some (.int .i64 a0_0) ∧ w'.cell? ⟨g_0, 1, none⟩ = some (.int .i64 a0_1) ∧ w'.cell? ⟨g_0, 2, none⟩ = some (.int .i64 a0_2) ∧ w'.cell? ⟨g_0, 3, none⟩ = some (.int .i64 a0_3) ∧ w'.cell? ⟨g_0, 4, none⟩ = some (.int .i64 a0_4) ∧ w'.cell? ⟨g_0, 5, none⟩ = some (.int .i64 a0_5) ∧ w'.cell? ⟨g_0, 6, none⟩ = some (.int .i64 a0_6) ∧ w'.cell? ⟨g_1, 0, none⟩ = some (.int .i64 a1_0) ∧ w'.cell? ⟨g_1, 1, none⟩ = some (.int .i64 a1_1) ∧ w'.cell? ⟨g_1, 2, none⟩ = some (.int .i64 a1_2) ∧ w'.cell? ⟨g_1, 3, none⟩ = some (.int .i64 a1_3) ∧ w'.cell? ⟨g_1, 4, none⟩ = some (.int .i64 a1_4) ∧ w'.cell? ⟨g_1, 5, none⟩ = some (.int .i64 a1_5) ∧ w'.cell? ⟨g_1, 6, none⟩ = some (.int .i64 a1_6)) (ds := []) #[false, false, false, false, false, false, false, false, false, false, false, false, false, false] (by kernel_rfl) rfl rfl ⟨(Y2 B_0.out 0).trans rfl, (Y2 B_0.out 1).trans rfl, (Y2 B_0.out 2).trans rfl, (Y2 B_0.out 3).trans rfl, (Y2 B_0.out 4).trans rfl, (Y2 B_0.out 5).trans rfl, (Y2 B_0.out 6).trans rfl, (Y2 B_1.out 0).trans rfl, (Y2 B_1.out 1).trans rfl, (Y2 B_1.out 2).trans rfl, (Y2 B_1.out 3).trans rfl, (Y2 B_1.out 4).trans rfl, (Y2 B_1.out 5).trans rfl, (Y2 B_1.out 6).trans rfl⟩ (fun hHeld => ?_); refine YO YE.tab1 YE.bits1 (fun HT_ HW_ => ?_)
 generalize w7.drew = w8 at B_0 B_1 HB hHeld ⊢
 refine puA 0 5 (bs 14 1) ?_
 refine puA 2 7 (bs 14 5) ?_
 refine puA 5 10 (bs 14 37) ?_
 refine puA 7 12 (bs 14 165) ?_
 refine tkA 1 6 (bs 14 167) hHeld ?_
 refine tkA 3 8 (bs 14 175) hHeld ?_
 refine tkA 6 11 (bs 14 239) hHeld ?_
 refine tkA 8 13 (bs 14 495) hHeld ?_
 refine one_ (i := 4) (N := some 9) (bs 14 511) rfl rfl (YH HT_.out (by kernel_rfl)) (by decide) (fun K hK => ?_)
 refine goes_ Try.func105 (by kernel_rfl) rfl #[.int .i64 a0_2, .int .i64 a1_2] (by rfl) rfl rfl (by (try simp only [List.map_toArray, List.map_cons, List.map_nil]); first | done | rfl | (simp only [List.length_drop, List.length_take]; rfl)) ?_
 with_reducible refine (cmp_Compare_int.calls a0_2 a1_2 t_1 _ A3.out).mono ?_
 rintro e w' ⟨rfl, ⟨nd, rfl⟩⟩
 refine ⟨_, rfl, ?_⟩
 refine hK.out _ _ ⟨(Y2 B_0.out 0).trans rfl, (Y2 B_0.out 1).trans rfl, (Y2 B_0.out 2).trans rfl, (Y2 B_0.out 3).trans rfl, (Y2 B_0.out 4).trans rfl, (Y2 B_0.out 5).trans rfl, (Y2 B_0.out 6).trans rfl, (Y2 B_1.out 0).trans rfl, (Y2 B_1.out 1).trans rfl, (Y2 B_1.out 2).trans rfl, (Y2 B_1.out 3).trans rfl, (Y2 B_1.out 4).trans rfl, (Y2 B_1.out 5).trans rfl, (Y2 B_1.out 6).trans rfl⟩ (fun hHeld => ?_)
 clear hK K
 refine nmA 9 ?_
 refine one_ (i := 9) (N := some 14) (bs 14 1023) rfl rfl (YH HT_.out (by kernel_rfl)) (by decide) (fun K hK => ?_)
 refine goes_ Try.func105 (by kernel_rfl) rfl #[.int .i64 a0_1, .int .i64 a1_1] (by rfl) rfl rfl (by (try simp only [List.map_toArray, List.map_cons, List.map_nil]); first | done | rfl | (simp only [List.length_drop, List.length_take]; rfl)) ?_
 with_reducible refine (cmp_Compare_int.calls a0_1 a1_1 t_0 _ A4.out).mono ?_
 rintro e w' ⟨rfl, ⟨nd, rfl⟩⟩
 refine ⟨_, rfl, ?_⟩
 refine hK.out _ _ ⟨(Y2 B_0.out 0).trans rfl, (Y2 B_0.out 1).trans rfl, (Y2 B_0.out 2).trans rfl, (Y2 B_0.out 3).trans rfl, (Y2 B_0.out 4).trans rfl, (Y2 B_0.out 5).trans rfl, (Y2 B_0.out 6).trans rfl, (Y2 B_1.out 0).trans rfl, (Y2 B_1.out 1).trans rfl, (Y2 B_1.out 2).trans rfl, (Y2 B_1.out 3).trans rfl, (Y2 B_1.out 4).trans rfl, (Y2 B_1.out 5).trans rfl, (Y2 B_1.out 6).trans rfl⟩ (fun hHeld => ?_)
 clear hK K
 refine nmA 14 ?_
 refine one_ (i := 10) (N := some 15) (bs 14 2047) rfl rfl (YH HT_.out (by kernel_rfl)) (by decide) (fun K hK => ?_)
 refine Kd.R_lit_step (Kd.int .i64) _ 3 ?hg (N := 15) ?hd (xs := ([t_1, t_0] : List Int)) (inner := [.int .i64 t_1, .int .i64 t_0]) (ok := fun _ => True) (okp := fun _ => True) ?hr ?hp (fun _ hk => hk) trivial (Below.refl _ _) (Nat.le_refl _) (by simp) ?_; (case hd => rfl); (case hg => rfl); (case hr => first | (go_simp; done) | (go_simp; rfl)); (case hp => exact (Reps.one (show Kd.M (Kd.int .i64) _ _ _ t_1 [.int .i64 t_1] from rfl) (Reps.one (show Kd.M (Kd.int .i64) _ _ _ t_0 [.int .i64 t_0] from rfl) (Reps.none _ _))))
 intro v_0 w9 ho10 hb hg_ hnew_
 clear hg_ hnew_
 (first | rw [← Ny904.out] at ho10 | (simp only [Int.reduceToNat] at ho10; rw [← Ny904.out] at ho10))
 have n0_ := Y0.mk (Kd.R_lower ho10 (Yh (hU HB.out)))
 have n1_ := Y0.mk (Y3 (bU B_0.out) hb)
 have n2_ := Y0.mk (Y3 (bU B_1.out) hb)
 have n3_ := Y0.mk (Y5 (hU HB.out) hb)
 clear B_0
 clear B_1
 clear HB
 have O_0 := n0_
 have B_0 := n1_
 have B_1 := n2_
 have HB := n3_
 clear n0_ n1_ n2_ n3_
 clear hb ho10
 obtain ⟨Ao11, co11, eo11⟩ := Kd.R_slice O_0.out
 (first | subst eo11 | (injection eo11 with f1_ f2_ f3_; have f4_ := f1_.symm; have f5_ := f3_.symm; clear f1_ f2_ f3_; subst f4_; subst f5_))
 refine hK.out _ _ ⟨(Y2 B_0.out 0).trans rfl, (Y2 B_0.out 1).trans rfl, (Y2 B_0.out 2).trans rfl, (Y2 B_0.out 3).trans rfl, (Y2 B_0.out 4).trans rfl, (Y2 B_0.out 5).trans rfl, (Y2 B_0.out 6).trans rfl, (Y2 B_1.out 0).trans rfl, (Y2 B_1.out 1).trans rfl, (Y2 B_1.out 2).trans rfl, (Y2 B_1.out 3).trans rfl, (Y2 B_1.out 4).trans rfl, (Y2 B_1.out 5).trans rfl, (Y2 B_1.out 6).trans rfl⟩ (fun hHeld => ?_)
 clear hK K
 refine nmA 15 ?_
 refine one_ (i := 11) (N := some 16) (bs 14 4095) rfl rfl (YH HT_.out (by kernel_rfl)) (by decide) (fun K hK => ?_)
 refine goes_ Try.func104 (by kernel_rfl) rfl #[.slice Ao11 y904.length co11] (by rfl) rfl rfl (by (try simp only [List.map_toArray, List.map_cons, List.map_nil]); first | done | rfl | (simp only [List.length_drop, List.length_take]; rfl)) ?_
 with_reducible refine (cmp_Or_int.calls k _ _ y904 t_2 _ ?side1 ?side2 A5.out).mono ?_
 (case side1 => repeat (first | exact (Kd.R_reads' O_0.out).2.2 | (with_reducible refine Kd.C_alloc ?_ _) | (with_reducible refine Kd.C_drewN ?_ _) | (with_reducible refine Kd.C_drew ?_)))
 (case side2 => exact (Kd.R_reads' O_0.out).2.1)
 rintro e w' ⟨rfl, ⟨nd, rfl⟩⟩
 refine ⟨_, rfl, ?_⟩
 refine hK.out _ _ ⟨(Y2 B_0.out 0).trans rfl, (Y2 B_0.out 1).trans rfl, (Y2 B_0.out 2).trans rfl, (Y2 B_0.out 3).trans rfl, (Y2 B_0.out 4).trans rfl, (Y2 B_0.out 5).trans rfl, (Y2 B_0.out 6).trans rfl, (Y2 B_1.out 0).trans rfl, (Y2 B_1.out 1).trans rfl, (Y2 B_1.out 2).trans rfl, (Y2 B_1.out 3).trans rfl, (Y2 B_1.out 4).trans rfl, (Y2 B_1.out 5).trans rfl, (Y2 B_1.out 6).trans rfl⟩ (fun hHeld => ?_)
 clear hK K
 refine nmA 16 ?_
 refine puA 12 17 (bs 14 8191) ?_
 refine puA 13 4 (bs 14 16383) ?_
 refine done_ (Y17 HT_.out (by kernel_rfl)) ?_
 try go_wp2
 go_ret
 exact ⟨reT, hU HB.out⟩
end Go.Proofs.Yteopkkoblbmggaa.P
end
section
set_option linter.unusedVariables false
set_option linter.unusedSimpArgs false
namespace Go.Proofs.Yteopkkoblbmggaa.P
open Go.RowKit Go.Proofs.YteopkkoblbmggaaW.PrintWords Go.Proofs.YteopkkoblbmggaaW.PrintLast Go.Proofs.YteopkkoblbmggaaW.PrintMore
attribute [local go_sem] YR YT Y11 Y12 YL YM YS YU
def Lays (w w' : World) : Prop := ∃ q os, w' = Go.Sort.grow (w.drewN q) os
theorem Lays.refl (w : World) : Lays w w := ⟨0, #[], by simp [Go.Sort.grow, World.drewN]⟩
theorem Lays.alloc {w W : World} (h : Lays w W) (o : Obj) : Lays w (W.alloc o) := by
  obtain ⟨q, os, rfl⟩ := h
  exact ⟨q, os ++ #[o], by rw [Go.Sort.alloc_eq_grow, Go.Sort.grow_grow]⟩
theorem Lays.drewN {w W : World} (h : Lays w W) (n : Nat) : Lays w (W.drewN n) := by
  obtain ⟨q, os, rfl⟩ := h
  exact ⟨q + n, os, by simp [Go.Sort.grow, World.drewN, Nat.add_assoc]⟩
theorem Lays.drew {w W : World} (h : Lays w W) : Lays w W.drew := h.drewN 1
theorem Lays.trans {w W w' : World} (h : Lays w W) (g : Lays W w') : Lays w w' := by
  obtain ⟨q, os, rfl⟩ := h
  obtain ⟨n, os', rfl⟩ := g
  exact ⟨q + n, os ++ os', by simp [Go.Sort.grow, World.drewN, Nat.add_assoc, Array.append_assoc]⟩
theorem Lays.below {w w' : World} (h : Lays w w') : Below w.heap.size w w' := by
  obtain ⟨q, os, rfl⟩ := h
  refine ⟨rfl, rfl, rfl, by simp [Go.Sort.grow, World.drewN], fun k hk => ?_⟩
  simp only [Go.Sort.grow, World.drewN]
  rw [Array.getElem?_append_left hk]
theorem lU {w W W' : World} (h : Lays w W) (s : Lays w W → Lays w W' := by intro h_; repeat (first | (with_reducible exact h_) | (with_reducible apply Lays.alloc) | (with_reducible apply Lays.drewN) | (with_reducible apply Lays.drew) | exact h_)) : Lays w W' := s h
theorem lS {w W W' : World} {o : Obj} {V : World} (h : Lays w W) (e : V = World.alloc W' o) (s : Lays w W → Lays w W' := by intro h_; repeat (first | (with_reducible exact h_) | (with_reducible apply Lays.alloc) | (with_reducible apply Lays.drewN) | (with_reducible apply Lays.drew) | exact h_)) : Lays w V := by rw [e]; exact (s h).alloc o
section
variable {P : Program} {ops : Array Oper} {rest : List Oper} {o : Oper} {a : Act} {Q : Exit → Act → World → Prop} {Kc : Act → World → Prop}
theorem YW {W : World} (hgd : o.guard = none) {N : Tmp} (_hd : o.dst = some N) {cs : Array Value} {t : TypeId}
    (hrun : (execOp a.eval o).run P W = .ok (.value (.pointer (some ⟨W.heap.size, 0, none⟩))) (W.alloc (.cells cs t (0, 0))))
    (h : ∀ g, g = W.heap.size → ∀ w1, w1.heap[g]? = some (.cells cs t (0, 0)) → Below W.heap.size W w1 → w1 = W.alloc (.cells cs t (0, 0)) → wpList P ops Q rest (a.put o.dst (.pointer (some ⟨g, 0, none⟩))) w1) : wpList P ops Q (o :: rest) a W :=
  Kd.event_run hgd hrun (h _ rfl _ (Y1c W _) (Yr (Below.refl _ _) _) rfl)
theorem Y4J {α : Type} (d : Kd α) {w0 W : World} (base e : Nat) (hw : Region.wanted o (yielded ops a.tmps) = true) {N : Tmp} (_hd : o.dst = some N) {xs : List α} {inner : List Value} {ok okp : Nat → Prop}
    (hrun : (execOp a.eval o).run P W = .ok (.value (.slice (some ⟨W.heap.size, 0, none⟩) xs.length xs.length)) (W.alloc (.cells inner.toArray e)))
    (hrep : Reps (d.M W base okp) d.sz xs inner) (hok : ∀ k, okp k → ok k) (hfresh : ok W.heap.size) (HB : Below base w0 W) (hbase : base ≤ W.heap.size) (hm : xs.length ≤ 9223372036854775807)
    (h : ∀ v1 w1, d.R e w1 base ok v1 xs → Below base w0 w1 → W.grownBy w1 none → (∃ b, v1.ownBlock = some b ∧ W.heap.size ≤ b) → w1 = W.alloc (.cells inner.toArray e) → Kc (a.put o.dst v1) w1) : if Region.wanted o (yielded ops a.tmps) = true then Oper.wp P o a W Kc Q else Kc (a.put o.dst undef) W := by
  refine Y2d hw hrun (h _ _ ⟨fun k hk => ?_, inner, ?_, ?_⟩ (HB.alloc hbase _) (World.grownBy_alloc W _ none) ⟨W.heap.size, by simp [Value.ownBlock], Nat.le_refl _⟩ rfl)
  · have : W.heap.size = k := by simpa [Value.ownBlock] using hk
    subst this
    exact hfresh
  · have h2 := World.ownsRow_lit (base := base) (e := e) (size := d.sz) W inner.toArray xs.length hbase (by simpa [maxLen] using hm) (by simpa using hrep.1)
    simpa using h2
  · refine hrep.imp_ (fun p c hp => d.M_mono (fun k hk => ⟨hok k hk.1, fun he => ?_⟩) (Kd.M_below (d.M_bound hp) (Yr (Below.refl _ _) _)))
    have h3 : k = W.heap.size := by simpa [Value.ownBlock] using he
    have := hk.2.2.1
    omega
end
set_option maxHeartbeats 8000000 in
set_option maxRecDepth 100000 in
theorem YN.lays (a0_0 : Int) (a0_1 : Int) (a1_0 : Int) (a1_1 : Int) (r : Bool) (w : World) (h : YN.f a0_0 a0_1 a1_0 a1_1 = some r) :
  Calls Try.prog 75 #[.agg #[.int .i64 a0_0, .int .i64 a0_1], .agg #[.int .i64 a1_0, .int .i64 a1_1]] w fun e w' => e = .returned (.bool r) ∧ Lays w w' := by
 have hu26 := Try.underlying26
 have HB := Y0.mk (Below.refl w.heap.size w)
 have LY := Y0.mk (Lays.refl w)
 have H : (if a0_0 < a1_0 then (some true) else (if a0_0 = a1_0 then (some (decide (a0_1 < a1_1))) else (some false))) = some r := h
 clear h
 by_cases c3 : a0_0 < a1_0
 ·rw [if_pos c3] at H
  have c3b0 : decide (a0_0 < a1_0) = true := decide_eq_true c3
  clear c3
  obtain rfl := Option.some.inj H
  go_enter Try.func75, Try.ntmps75
  go_wp2_with (first | ((with_reducible refine Ye (N := 2) rfl ?_); refine YW ?hg (N := 2) ?hd (cs := #[.int .i64 a0_0, .int .i64 a0_1]) (t := 26) ?hr ?_; (case hd => rfl); (case hg => rfl); (case hr => first | (go_simp; done) | (go_simp; rfl)); intro gb104 hg w4 hbox hb hl_; replace LY := Y0.mk (lS LY.out hl_); clear hl_; have n0_ := Y0.mk (Y5 (hU HB.out) hb); have n1_ := Y0.mk (hbox); have n2_ := Y0.mk ((by rw [hg]; exact (Yh (hU HB.out)) : w.heap.size ≤ gb104)); have n3_ := Y0.mk ((by rw [hg]; exact (Yh (hU HB.out)) : w.heap.size ≤ gb104)); clear HB; have HB := n0_; have BK104 := n1_; have GW104 := n2_; have GE104 := n3_; clear n0_ n1_ n2_ n3_; clear hb hbox hg) | ((with_reducible refine Ye (N := 3) rfl ?_); refine YW ?hg (N := 3) ?hd (cs := #[.int .i64 a1_0, .int .i64 a1_1]) (t := 26) ?hr ?_; (case hd => rfl); (case hg => rfl); (case hr => first | (go_simp; done) | (go_simp; rfl)); intro gb105 hg w5 hbox hb hl_; replace LY := Y0.mk (lS LY.out hl_); clear hl_; have n0_ := Y0.mk (Y3 (bU BK104.out) hb); have n1_ := Y0.mk (Y5 (hU HB.out) hb); have n2_ := Y0.mk (hbox); have n3_ := Y0.mk ((by rw [hg]; exact (Yh (hU HB.out)) : w.heap.size ≤ gb105)); have n4_ := Y0.mk ((by rw [hg]; exact (Yh (hU HB.out)) : w.heap.size ≤ gb105)); have n5_ := Y0.mk ((by rw [hg]; exact Nat.ne_of_lt (YP (bU BK104.out)) : gb104 ≠ gb105)); have n6_ := Y0.mk ((by rw [hg]; exact Nat.ne_of_gt (YP (bU BK104.out)) : gb105 ≠ gb104)); clear BK104; clear HB; have BK104 := n0_; have HB := n1_; have BK105 := n2_; have GW105 := n3_; have GE105 := n4_; have NB104_105 := n5_; have NB105_104 := n6_; clear n0_ n1_ n2_ n3_ n4_ n5_ n6_; clear hb hbox hg; have hnb6 := NB104_105.out; have hnc6 := NB105_104.out; have hcz7_0 := Y2 BK104.out; have hfz7_0 := Y4 BK104.out; have hcz8_0 := Y2 BK105.out; have hfz8_0 := Y4 BK105.out))
  go_ret
  exact ⟨by first | rfl | (simp [Y1k, Y1l] <;> rfl) | (simp [*, Y1k, Y1l] <;> rfl), lU LY.out⟩
 ·rw [if_neg c3] at H
  have c3b0 : decide (a0_0 < a1_0) = false := decide_eq_false c3
  clear c3
  by_cases c9 : a0_0 = a1_0
  ·rw [if_pos c9] at H
   have c9b0 : (a0_0 == a1_0) = true := beq_iff_eq.mpr c9
   have c9b1 : (a0_0 != a1_0) = false := bne_eq_false_iff_eq.mpr c9
   clear c9
   obtain rfl := Option.some.inj H
   go_enter Try.func75, Try.ntmps75
   go_wp2_with (first | ((with_reducible refine Ye (N := 2) rfl ?_); refine YW ?hg (N := 2) ?hd (cs := #[.int .i64 a0_0, .int .i64 a0_1]) (t := 26) ?hr ?_; (case hd => rfl); (case hg => rfl); (case hr => first | (go_simp; done) | (go_simp; rfl)); intro gb104 hg w10 hbox hb hl_; replace LY := Y0.mk (lS LY.out hl_); clear hl_; have n0_ := Y0.mk (Y5 (hU HB.out) hb); have n1_ := Y0.mk (hbox); have n2_ := Y0.mk ((by rw [hg]; exact (Yh (hU HB.out)) : w.heap.size ≤ gb104)); have n3_ := Y0.mk ((by rw [hg]; exact (Yh (hU HB.out)) : w.heap.size ≤ gb104)); clear HB; have HB := n0_; have BK104 := n1_; have GW104 := n2_; have GE104 := n3_; clear n0_ n1_ n2_ n3_; clear hb hbox hg) | ((with_reducible refine Ye (N := 3) rfl ?_); refine YW ?hg (N := 3) ?hd (cs := #[.int .i64 a1_0, .int .i64 a1_1]) (t := 26) ?hr ?_; (case hd => rfl); (case hg => rfl); (case hr => first | (go_simp; done) | (go_simp; rfl)); intro gb105 hg w11 hbox hb hl_; replace LY := Y0.mk (lS LY.out hl_); clear hl_; have n0_ := Y0.mk (Y3 (bU BK104.out) hb); have n1_ := Y0.mk (Y5 (hU HB.out) hb); have n2_ := Y0.mk (hbox); have n3_ := Y0.mk ((by rw [hg]; exact (Yh (hU HB.out)) : w.heap.size ≤ gb105)); have n4_ := Y0.mk ((by rw [hg]; exact (Yh (hU HB.out)) : w.heap.size ≤ gb105)); have n5_ := Y0.mk ((by rw [hg]; exact Nat.ne_of_lt (YP (bU BK104.out)) : gb104 ≠ gb105)); have n6_ := Y0.mk ((by rw [hg]; exact Nat.ne_of_gt (YP (bU BK104.out)) : gb105 ≠ gb104)); clear BK104; clear HB; have BK104 := n0_; have HB := n1_; have BK105 := n2_; have GW105 := n3_; have GE105 := n4_; have NB104_105 := n5_; have NB105_104 := n6_; clear n0_ n1_ n2_ n3_ n4_ n5_ n6_; clear hb hbox hg; have hnb12 := NB104_105.out; have hnc12 := NB105_104.out; have hcz13_0 := Y2 BK104.out; have hfz13_0 := Y4 BK104.out; have hcz14_0 := Y2 BK105.out; have hfz14_0 := Y4 BK105.out))
   go_ret
   exact ⟨by first | rfl | (simp [Y1k, Y1l] <;> rfl) | (simp [*, Y1k, Y1l] <;> rfl), lU LY.out⟩
  ·rw [if_neg c9] at H
   have c9b0 : (a0_0 == a1_0) = false := beq_eq_false_iff_ne.mpr c9
   have c9b1 : (a0_0 != a1_0) = true := bne_iff_ne.mpr c9
   obtain rfl := Option.some.inj H
   go_enter Try.func75, Try.ntmps75
   go_wp2_with (first | ((with_reducible refine Ye (N := 2) rfl ?_); refine YW ?hg (N := 2) ?hd (cs := #[.int .i64 a0_0, .int .i64 a0_1]) (t := 26) ?hr ?_; (case hd => rfl); (case hg => rfl); (case hr => first | (go_simp; done) | (go_simp; rfl)); intro gb104 hg w15 hbox hb hl_; replace LY := Y0.mk (lS LY.out hl_); clear hl_; have n0_ := Y0.mk (Y5 (hU HB.out) hb); have n1_ := Y0.mk (hbox); have n2_ := Y0.mk ((by rw [hg]; exact (Yh (hU HB.out)) : w.heap.size ≤ gb104)); have n3_ := Y0.mk ((by rw [hg]; exact (Yh (hU HB.out)) : w.heap.size ≤ gb104)); clear HB; have HB := n0_; have BK104 := n1_; have GW104 := n2_; have GE104 := n3_; clear n0_ n1_ n2_ n3_; clear hb hbox hg) | ((with_reducible refine Ye (N := 3) rfl ?_); refine YW ?hg (N := 3) ?hd (cs := #[.int .i64 a1_0, .int .i64 a1_1]) (t := 26) ?hr ?_; (case hd => rfl); (case hg => rfl); (case hr => first | (go_simp; done) | (go_simp; rfl)); intro gb105 hg w16 hbox hb hl_; replace LY := Y0.mk (lS LY.out hl_); clear hl_; have n0_ := Y0.mk (Y3 (bU BK104.out) hb); have n1_ := Y0.mk (Y5 (hU HB.out) hb); have n2_ := Y0.mk (hbox); have n3_ := Y0.mk ((by rw [hg]; exact (Yh (hU HB.out)) : w.heap.size ≤ gb105)); have n4_ := Y0.mk ((by rw [hg]; exact (Yh (hU HB.out)) : w.heap.size ≤ gb105)); have n5_ := Y0.mk ((by rw [hg]; exact Nat.ne_of_lt (YP (bU BK104.out)) : gb104 ≠ gb105)); have n6_ := Y0.mk ((by rw [hg]; exact Nat.ne_of_gt (YP (bU BK104.out)) : gb105 ≠ gb104)); clear BK104; clear HB; have BK104 := n0_; have HB := n1_; have BK105 := n2_; have GW105 := n3_; have GE105 := n4_; have NB104_105 := n5_; have NB105_104 := n6_; clear n0_ n1_ n2_ n3_ n4_ n5_ n6_; clear hb hbox hg; have hnb17 := NB104_105.out; have hnc17 := NB105_104.out; have hcz18_0 := Y2 BK104.out; have hfz18_0 := Y4 BK104.out; have hcz19_0 := Y2 BK105.out; have hfz19_0 := Y4 BK105.out))
   go_ret
   exact ⟨by first | rfl | (simp [Y1k, Y1l] <;> rfl) | (simp [*, Y1k, Y1l] <;> rfl), lU LY.out⟩
set_option maxHeartbeats 8000000 in
set_option maxRecDepth 100000 in
theorem YE.lays (k : Nat) (a0_0 : Int) (a0_1 : Int) (a0_2 : Int) (a0_3 : Int) (a0_4 : Int) (a0_5 : Int) (a0_6 : Int) (a1_0 : Int) (a1_1 : Int) (a1_2 : Int) (a1_3 : Int) (a1_4 : Int) (a1_5 : Int) (a1_6 : Int) (r : Bool) (w : World) (h : YE.f k a0_0 a0_1 a0_2 a0_3 a0_4 a0_5 a0_6 a1_0 a1_1 a1_2 a1_3 a1_4 a1_5 a1_6 = some r) :
  Calls Try.prog 70 #[.agg #[.int .i64 a0_0, .int .i64 a0_1, .int .i64 a0_2, .int .i64 a0_3, .int .i64 a0_4, .int .i64 a0_5, .int .i64 a0_6], .agg #[.int .i64 a1_0, .int .i64 a1_1, .int .i64 a1_2, .int .i64 a1_3, .int .i64 a1_4, .int .i64 a1_5, .int .i64 a1_6]] w fun e w' => e = .returned (.bool r) ∧ Lays w w' := by
 have hu28 := Try.underlying28
 have HB := Y0.mk (Below.refl w.heap.size w)
 have LY := Y0.mk (Lays.refl w)
 have H : ((cmp_Compare_int.f a0_2 a1_2).bind fun t902 => ((cmp_Compare_int.f a0_1 a1_1).bind fun t903 => ((cmp_Or_int.f k (([t902, t903] : List Int))).bind fun t907 => (some (decide (t907 < 0)))))) = some r := h
 clear h
 replace H := Option.bind_eq_some_iff.mp H
 obtain ⟨t902, A30, H⟩ := H
 replace H : ((cmp_Compare_int.f a0_1 a1_1).bind fun t903 => ((cmp_Or_int.f k (([t902, t903] : List Int))).bind fun t907 => (some (decide (t907 < 0))))) = some r := H
 have A3 := Y0.mk A30
 clear A30
 replace H := Option.bind_eq_some_iff.mp H
 obtain ⟨t903, A40, H⟩ := H
 replace H : ((cmp_Or_int.f k (([t902, t903] : List Int))).bind fun t907 => (some (decide (t907 < 0)))) = some r := H
 have A4 := Y0.mk A40
 clear A40
 obtain ⟨y904, hy904⟩ : ∃ y_ : List Int, y_ = (([t902, t903] : List Int)) := ⟨_, rfl⟩
 replace H : ((cmp_Or_int.f k y904).bind fun t907 => (some (decide (t907 < 0)))) = some r := by first | (rw [hy904]; with_reducible exact H) | (have H2_ := (Option.bind_some _ _).symm.trans H; rw [hy904]; with_reducible exact H2_) | (have H2_ := (Option.bind_some _ _).symm.trans H; with_reducible exact H2_) | with_reducible exact H | (rw [hy904]; exact H) | exact H
 have Ny904 := Y0.mk hy904
 clear hy904
 replace H := Option.bind_eq_some_iff.mp H
 obtain ⟨t907, A50, H⟩ := H
 replace H : (some (decide (t907 < 0))) = some r := H
 have A5 := Y0.mk A50
 clear A50
 obtain rfl := Option.some.inj H
 go_enter Try.func70, Try.ntmps70
 try go_wp2_with (first | ((with_reducible refine Ye (N := 2) rfl ?_); refine YW ?hg (N := 2) ?hd (cs := #[.int .i64 a0_0, .int .i64 a0_1, .int .i64 a0_2, .int .i64 a0_3, .int .i64 a0_4, .int .i64 a0_5, .int .i64 a0_6]) (t := 28) ?hr ?_; (case hd => rfl); (case hg => rfl); (case hr => first | (go_simp; done) | (go_simp; rfl)); intro gb900 hg w6 hbox hb hl_; replace LY := Y0.mk (lS LY.out hl_); clear hl_; have n0_ := Y0.mk (Y5 (hU HB.out) hb); have n1_ := Y0.mk (hbox); have n2_ := Y0.mk ((by rw [hg]; exact (Yh (hU HB.out)) : w.heap.size ≤ gb900)); have n3_ := Y0.mk ((by rw [hg]; exact (Yh (hU HB.out)) : w.heap.size ≤ gb900)); clear HB; have HB := n0_; have BK900 := n1_; have GW900 := n2_; have GE900 := n3_; clear n0_ n1_ n2_ n3_; clear hb hbox hg) | ((with_reducible refine Ye (N := 3) rfl ?_); refine YW ?hg (N := 3) ?hd (cs := #[.int .i64 a1_0, .int .i64 a1_1, .int .i64 a1_2, .int .i64 a1_3, .int .i64 a1_4, .int .i64 a1_5, .int .i64 a1_6]) (t := 28) ?hr ?_; (case hd => rfl); (case hg => rfl); (case hr => first | (go_simp; done) | (go_simp; rfl)); intro gb901 hg w7 hbox hb hl_; replace LY := Y0.mk (lS LY.out hl_); clear hl_; have n0_ := Y0.mk (Y3 (bU BK900.out) hb); have n1_ := Y0.mk (Y5 (hU HB.out) hb); have n2_ := Y0.mk (hbox); have n3_ := Y0.mk ((by rw [hg]; exact (Yh (hU HB.out)) : w.heap.size ≤ gb901)); have n4_ := Y0.mk ((by rw [hg]; exact (Yh (hU HB.out)) : w.heap.size ≤ gb901)); have n5_ := Y0.mk ((by rw [hg]; exact Nat.ne_of_lt (YP (bU BK900.out)) : gb900 ≠ gb901)); have n6_ := Y0.mk ((by rw [hg]; exact Nat.ne_of_gt (YP (bU BK900.out)) : gb901 ≠ gb900)); clear BK900; clear HB; have BK900 := n0_; have HB := n1_; have BK901 := n2_; have GW901 := n3_; have GE901 := n4_; have NB900_901 := n5_; have NB901_900 := n6_; clear n0_ n1_ n2_ n3_ n4_ n5_ n6_; clear hb hbox hg))
 replace BK900 := Y0.mk (Y7 BK900.out)
 replace BK901 := Y0.mk (Y7 BK901.out)
 replace HB := Y0.mk (Yv HB.out)
 replace LY := Y0.mk (LY.out.drew)
 refine Y19 (n := 14) (S := fun w' => w'.cell? ⟨gb900, 0, none⟩ = some (.int .i64 a0_0) ∧ w'.cell? ⟨gb900, 1, none⟩ = some (.int .i64 a0_1) ∧ w'.cell? ⟨gb900, 2, none⟩ = some (.int .i64 a0_2) ∧ w'.cell? ⟨gb900, 3, none⟩ = some (.int .i64 a0_3) ∧ w'.cell? ⟨gb900, 4, none⟩ = some (.int .i64 a0_4) ∧ w'.cell? ⟨gb900, 5, none⟩ = some (.int .i64 a0_5) ∧ w'.cell? ⟨gb900, 6, none⟩ = some (.int .i64 a0_6) ∧ w'.cell? ⟨gb901, 0, none⟩ = some (.int .i64 a1_0) ∧ w'.cell? ⟨gb901, 1, none⟩ = some (.int .i64 a1_1) ∧ w'.cell? ⟨gb901, 2, none⟩ = some (.int .i64 a1_2) ∧ w'.cell? ⟨gb901, 3, none⟩ = some (.int .i64 a1_3) ∧ w'.cell? ⟨gb901, 4, none⟩ = some (.int .i64 a1_4) ∧ w'.cell? ⟨gb901, 5, none⟩ = some (.int .i64 a1_5) ∧ w'.cell? ⟨gb901, 6, none⟩ = some (.int .i64 a1_6)) (ds := []) #[false, false, false, false, false, false, false, false, false, false, false, false, false, false] (by kernel_rfl) rfl rfl ⟨(Y2 BK900.out 0).trans rfl, (Y2 BK900.out 1).trans rfl, (Y2 BK900.out 2).trans rfl, (Y2 BK900.out 3).trans rfl, (Y2 BK900.out 4).trans rfl, (Y2 BK900.out 5).trans rfl, (Y2 BK900.out 6).trans rfl, (Y2 BK901.out 0).trans rfl, (Y2 BK901.out 1).trans rfl, (Y2 BK901.out 2).trans rfl, (Y2 BK901.out 3).trans rfl, (Y2 BK901.out 4).trans rfl, (Y2 BK901.out 5).trans rfl, (Y2 BK901.out 6).trans rfl⟩ (fun hHeld => ?_); refine YO YE.tab1 YE.bits1 (fun HT_ HW_ => ?_)
 generalize w7.drew = w8 at BK900 BK901 HB LY hHeld ⊢
 refine puA 0 5 (bs 14 1) ?_
 refine puA 2 7 (bs 14 5) ?_
 refine puA 5 10 (bs 14 37) ?_
 refine puA 7 12 (bs 14 165) ?_
 refine tkA 1 6 (bs 14 167) hHeld ?_
 refine tkA 3 8 (bs 14 175) hHeld ?_
 refine tkA 6 11 (bs 14 239) hHeld ?_
 refine tkA 8 13 (bs 14 495) hHeld ?_
 refine one_ (i := 4) (N := some 9) (bs 14 511) rfl rfl (YH HT_.out (by kernel_rfl)) (by decide) (fun K hK => ?_)
 refine goes_ Try.func105 (by kernel_rfl) rfl #[.int .i64 a0_2, .int .i64 a1_2] (by rfl) rfl rfl (by (try simp only [List.map_toArray, List.map_cons, List.map_nil]); first | done | rfl | (simp only [List.length_drop, List.length_take]; rfl)) ?_
 with_reducible refine (cmp_Compare_int.calls a0_2 a1_2 t902 _ A3.out).mono ?_
 rintro e w' ⟨rfl, ⟨nd, rfl⟩⟩
 refine ⟨_, rfl, ?_⟩
 refine hK.out _ _ ⟨(Y2 BK900.out 0).trans rfl, (Y2 BK900.out 1).trans rfl, (Y2 BK900.out 2).trans rfl, (Y2 BK900.out 3).trans rfl, (Y2 BK900.out 4).trans rfl, (Y2 BK900.out 5).trans rfl, (Y2 BK900.out 6).trans rfl, (Y2 BK901.out 0).trans rfl, (Y2 BK901.out 1).trans rfl, (Y2 BK901.out 2).trans rfl, (Y2 BK901.out 3).trans rfl, (Y2 BK901.out 4).trans rfl, (Y2 BK901.out 5).trans rfl, (Y2 BK901.out 6).trans rfl⟩ (fun hHeld => ?_)
 clear hK K
 refine nmA 9 ?_
 refine one_ (i := 9) (N := some 14) (bs 14 1023) rfl rfl (YH HT_.out (by kernel_rfl)) (by decide) (fun K hK => ?_)
 refine goes_ Try.func105 (by kernel_rfl) rfl #[.int .i64 a0_1, .int .i64 a1_1] (by rfl) rfl rfl (by (try simp only [List.map_toArray, List.map_cons, List.map_nil]); first | done | rfl | (simp only [List.length_drop, List.length_take]; rfl)) ?_
 with_reducible refine (cmp_Compare_int.calls a0_1 a1_1 t903 _ A4.out).mono ?_
 rintro e w' ⟨rfl, ⟨nd, rfl⟩⟩
 refine ⟨_, rfl, ?_⟩
 refine hK.out _ _ ⟨(Y2 BK900.out 0).trans rfl, (Y2 BK900.out 1).trans rfl, (Y2 BK900.out 2).trans rfl, (Y2 BK900.out 3).trans rfl, (Y2 BK900.out 4).trans rfl, (Y2 BK900.out 5).trans rfl, (Y2 BK900.out 6).trans rfl, (Y2 BK901.out 0).trans rfl, (Y2 BK901.out 1).trans rfl, (Y2 BK901.out 2).trans rfl, (Y2 BK901.out 3).trans rfl, (Y2 BK901.out 4).trans rfl, (Y2 BK901.out 5).trans rfl, (Y2 BK901.out 6).trans rfl⟩ (fun hHeld => ?_)
 clear hK K
 refine nmA 14 ?_
 refine one_ (i := 10) (N := some 15) (bs 14 2047) rfl rfl (YH HT_.out (by kernel_rfl)) (by decide) (fun K hK => ?_)
 refine Y4J (Kd.int .i64) _ 3 ?hg (N := 15) ?hd (xs := ([t902, t903] : List Int)) (inner := [.int .i64 t902, .int .i64 t903]) (ok := fun _ => True) (okp := fun _ => True) ?hr ?hp (fun _ hk => hk) trivial (Below.refl _ _) (Nat.le_refl _) (by simp) ?_; (case hd => rfl); (case hg => rfl); (case hr => first | (go_simp; done) | (go_simp; rfl)); (case hp => exact (Reps.one (show Kd.M (Kd.int .i64) _ _ _ t902 [.int .i64 t902] from rfl) (Reps.one (show Kd.M (Kd.int .i64) _ _ _ t903 [.int .i64 t903] from rfl) (Reps.none _ _))))
 intro v905 w9 ho10 hb hg_ hnew_ hl_
 replace LY := Y0.mk (lS LY.out hl_)
 clear hl_
 clear hg_ hnew_
 (first | rw [← Ny904.out] at ho10 | (simp only [Int.reduceToNat] at ho10; rw [← Ny904.out] at ho10))
 have n0_ := Y0.mk (Kd.R_lower ho10 (Yh (hU HB.out)))
 have n1_ := Y0.mk (Y3 (bU BK900.out) hb)
 have n2_ := Y0.mk (Y3 (bU BK901.out) hb)
 have n3_ := Y0.mk (Y5 (hU HB.out) hb)
 clear BK900
 clear BK901
 clear HB
 have HO906 := n0_
 have BK900 := n1_
 have BK901 := n2_
 have HB := n3_
 clear n0_ n1_ n2_ n3_
 clear hb ho10
 obtain ⟨Ao11, co11, eo11⟩ := Kd.R_slice HO906.out
 (first | subst eo11 | (injection eo11 with f1_ f2_ f3_; have f4_ := f1_.symm; have f5_ := f3_.symm; clear f1_ f2_ f3_; subst f4_; subst f5_))
 refine hK.out _ _ ⟨(Y2 BK900.out 0).trans rfl, (Y2 BK900.out 1).trans rfl, (Y2 BK900.out 2).trans rfl, (Y2 BK900.out 3).trans rfl, (Y2 BK900.out 4).trans rfl, (Y2 BK900.out 5).trans rfl, (Y2 BK900.out 6).trans rfl, (Y2 BK901.out 0).trans rfl, (Y2 BK901.out 1).trans rfl, (Y2 BK901.out 2).trans rfl, (Y2 BK901.out 3).trans rfl, (Y2 BK901.out 4).trans rfl, (Y2 BK901.out 5).trans rfl, (Y2 BK901.out 6).trans rfl⟩ (fun hHeld => ?_)
 clear hK K
 refine nmA 15 ?_
 refine one_ (i := 11) (N := some 16) (bs 14 4095) rfl rfl (YH HT_.out (by kernel_rfl)) (by decide) (fun K hK => ?_)
 refine goes_ Try.func104 (by kernel_rfl) rfl #[.slice Ao11 y904.length co11] (by rfl) rfl rfl (by (try simp only [List.map_toArray, List.map_cons, List.map_nil]); first | done | rfl | (simp only [List.length_drop, List.length_take]; rfl)) ?_
 with_reducible refine (cmp_Or_int.calls k _ _ y904 t907 _ ?side1 ?side2 A5.out).mono ?_
 (case side1 => repeat (first | exact (Kd.R_reads' HO906.out).2.2 | (with_reducible refine Kd.C_alloc ?_ _) | (with_reducible refine Kd.C_drewN ?_ _) | (with_reducible refine Kd.C_drew ?_)))
 (case side2 => exact (Kd.R_reads' HO906.out).2.1)
 rintro e w' ⟨rfl, ⟨nd, rfl⟩⟩
 refine ⟨_, rfl, ?_⟩
 refine hK.out _ _ ⟨(Y2 BK900.out 0).trans rfl, (Y2 BK900.out 1).trans rfl, (Y2 BK900.out 2).trans rfl, (Y2 BK900.out 3).trans rfl, (Y2 BK900.out 4).trans rfl, (Y2 BK900.out 5).trans rfl, (Y2 BK900.out 6).trans rfl, (Y2 BK901.out 0).trans rfl, (Y2 BK901.out 1).trans rfl, (Y2 BK901.out 2).trans rfl, (Y2 BK901.out 3).trans rfl, (Y2 BK901.out 4).trans rfl, (Y2 BK901.out 5).trans rfl, (Y2 BK901.out 6).trans rfl⟩ (fun hHeld => ?_)
 clear hK K
 refine nmA 16 ?_
 refine puA 12 17 (bs 14 8191) ?_
 refine puA 13 4 (bs 14 16383) ?_
 refine done_ (Y17 HT_.out (by kernel_rfl)) ?_
 try go_wp2
 go_ret
 exact ⟨by first | rfl | (simp [Y1k, Y1l] <;> rfl) | (simp [*, Y1k, Y1l] <;> rfl), lU LY.out⟩
structure SG where
  p : Int
  c : Int
  d : Int
instance : Inhabited SG := ⟨⟨0, 0, 0⟩⟩
def cfS (x y : SG) : Int := if lessP x.c x.d y.c y.d = true then -1 else if lessP y.c y.d x.c x.d = true then 1 else 0
set_option maxHeartbeats 8000000 in
set_option maxRecDepth 100000 in
theorem Y3u (x y : SG) (w : World) : Calls Try.prog 99 #[.agg #[.int .i64 x.p, .int .i64 x.c, .int .i64 x.d], .agg #[.int .i64 y.p, .int .i64 y.c, .int .i64 y.d]] w fun e w' => e = .returned (.int .i64 (cfS x y)) ∧ Lays w w' := by
  have hu82 := Try.underlying82
  have hu26 := Try.underlying26
  have HB := Y0.mk (Below.refl w.heap.size w)
  have LY := Y0.mk (Lays.refl w)
  unfold cfS
  obtain ⟨t1, h1⟩ : ∃ t, lessP x.c x.d y.c y.d = t := ⟨_, rfl⟩
  rw [h1]
  cases t1
  · obtain ⟨t2, h2⟩ : ∃ t, lessP y.c y.d x.c x.d = t := ⟨_, rfl⟩
    rw [h2]
    cases t2
    · go_enter Try.func99, Try.ntmps99
      go_wp2_with (first | ((with_reducible refine Ye (N := 2) rfl ?_); refine YW ?hg (N := 2) ?hd (cs := #[.int .i64 x.p, .int .i64 x.c, .int .i64 x.d]) (t := 82) ?hr ?_; (case hd => rfl); (case hg => rfl); (case hr => first | (go_simp; done) | (go_simp; rfl)); intro ga hg wa hbox hb hl_; replace LY := Y0.mk (lS LY.out hl_); clear hl_; have n0_ := Y0.mk (Y5 (hU HB.out) hb); have n1_ := Y0.mk (hbox); clear HB; have HB := n0_; have Ba := n1_; clear n0_ n1_; clear hb hbox hg; have hca_a := Y2 Ba.out; have hfa_a := Y4 Ba.out) | ((with_reducible refine Ye (N := 3) rfl ?_); refine YW ?hg (N := 3) ?hd (cs := #[.int .i64 y.p, .int .i64 y.c, .int .i64 y.d]) (t := 82) ?hr ?_; (case hd => rfl); (case hg => rfl); (case hr => first | (go_simp; done) | (go_simp; rfl)); intro gb hg wb hbox hb hl_; replace LY := Y0.mk (lS LY.out hl_); clear hl_; have n0_ := Y0.mk (Y5 (hU HB.out) hb); have n1_ := Y0.mk (hbox); replace Ba := Y0.mk (Y3 (bU Ba.out) hb); clear HB; have HB := n0_; have Bb := n1_; clear n0_ n1_; clear hb hbox hg; have hca_b := Y2 Ba.out; have hfa_b := Y4 Ba.out; have hcb_b := Y2 Bb.out; have hfb_b := Y4 Bb.out) | ((with_reducible refine Yd (f := 75) rfl ?_); refine YG (some 9) rfl rfl Try.func75 (by kernel_rfl) rfl #[.agg #[.int .i64 x.c, .int .i64 x.d], .agg #[.int .i64 y.c, .int .i64 y.d]] rfl (by (try simp only [List.map_toArray, List.map_cons, List.map_nil]); first | done | rfl) ?_; (refine (YN.lays _ _ _ _ false _ ((Y1t _ _ _ _).trans (congrArg some h1))).mono ?_); rintro e wu ⟨rfl, hl_⟩; refine ⟨_, rfl, ?_⟩; replace Ba := Y0.mk (Y3 (bU Ba.out) hl_.below); replace Bb := Y0.mk (Y3 (bU Bb.out) hl_.below); replace LY := Y0.mk (LY.out.trans hl_); clear hl_; have hca_u := Y2 Ba.out; have hfa_u := Y4 Ba.out; have hcb_u := Y2 Bb.out; have hfb_u := Y4 Bb.out) | ((with_reducible refine Yd (f := 75) rfl ?_); refine YG (some 14) rfl rfl Try.func75 (by kernel_rfl) rfl #[.agg #[.int .i64 y.c, .int .i64 y.d], .agg #[.int .i64 x.c, .int .i64 x.d]] rfl (by (try simp only [List.map_toArray, List.map_cons, List.map_nil]); first | done | rfl) ?_; (refine (YN.lays _ _ _ _ false _ ((Y1t _ _ _ _).trans (congrArg some h2))).mono ?_); rintro e wv ⟨rfl, hl_⟩; refine ⟨_, rfl, ?_⟩; replace Ba := Y0.mk (Y3 (bU Ba.out) hl_.below); replace Bb := Y0.mk (Y3 (bU Bb.out) hl_.below); replace LY := Y0.mk (LY.out.trans hl_); clear hl_; have hca_v := Y2 Ba.out; have hfa_v := Y4 Ba.out; have hcb_v := Y2 Bb.out; have hfb_v := Y4 Bb.out))
      go_ret
      exact ⟨rfl, lU LY.out⟩
    · go_enter Try.func99, Try.ntmps99
      go_wp2_with (first | ((with_reducible refine Ye (N := 2) rfl ?_); refine YW ?hg (N := 2) ?hd (cs := #[.int .i64 x.p, .int .i64 x.c, .int .i64 x.d]) (t := 82) ?hr ?_; (case hd => rfl); (case hg => rfl); (case hr => first | (go_simp; done) | (go_simp; rfl)); intro ga hg wa hbox hb hl_; replace LY := Y0.mk (lS LY.out hl_); clear hl_; have n0_ := Y0.mk (Y5 (hU HB.out) hb); have n1_ := Y0.mk (hbox); clear HB; have HB := n0_; have Ba := n1_; clear n0_ n1_; clear hb hbox hg; have hca_a := Y2 Ba.out; have hfa_a := Y4 Ba.out) | ((with_reducible refine Ye (N := 3) rfl ?_); refine YW ?hg (N := 3) ?hd (cs := #[.int .i64 y.p, .int .i64 y.c, .int .i64 y.d]) (t := 82) ?hr ?_; (case hd => rfl); (case hg => rfl); (case hr => first | (go_simp; done) | (go_simp; rfl)); intro gb hg wb hbox hb hl_; replace LY := Y0.mk (lS LY.out hl_); clear hl_; have n0_ := Y0.mk (Y5 (hU HB.out) hb); have n1_ := Y0.mk (hbox); replace Ba := Y0.mk (Y3 (bU Ba.out) hb); clear HB; have HB := n0_; have Bb := n1_; clear n0_ n1_; clear hb hbox hg; have hca_b := Y2 Ba.out; have hfa_b := Y4 Ba.out; have hcb_b := Y2 Bb.out; have hfb_b := Y4 Bb.out) | ((with_reducible refine Yd (f := 75) rfl ?_); refine YG (some 9) rfl rfl Try.func75 (by kernel_rfl) rfl #[.agg #[.int .i64 x.c, .int .i64 x.d], .agg #[.int .i64 y.c, .int .i64 y.d]] rfl (by (try simp only [List.map_toArray, List.map_cons, List.map_nil]); first | done | rfl) ?_; (refine (YN.lays _ _ _ _ false _ ((Y1t _ _ _ _).trans (congrArg some h1))).mono ?_); rintro e wu ⟨rfl, hl_⟩; refine ⟨_, rfl, ?_⟩; replace Ba := Y0.mk (Y3 (bU Ba.out) hl_.below); replace Bb := Y0.mk (Y3 (bU Bb.out) hl_.below); replace LY := Y0.mk (LY.out.trans hl_); clear hl_; have hca_u := Y2 Ba.out; have hfa_u := Y4 Ba.out; have hcb_u := Y2 Bb.out; have hfb_u := Y4 Bb.out) | ((with_reducible refine Yd (f := 75) rfl ?_); refine YG (some 14) rfl rfl Try.func75 (by kernel_rfl) rfl #[.agg #[.int .i64 y.c, .int .i64 y.d], .agg #[.int .i64 x.c, .int .i64 x.d]] rfl (by (try simp only [List.map_toArray, List.map_cons, List.map_nil]); first | done | rfl) ?_; (refine (YN.lays _ _ _ _ true _ ((Y1t _ _ _ _).trans (congrArg some h2))).mono ?_); rintro e wv ⟨rfl, hl_⟩; refine ⟨_, rfl, ?_⟩; replace Ba := Y0.mk (Y3 (bU Ba.out) hl_.below); replace Bb := Y0.mk (Y3 (bU Bb.out) hl_.below); replace LY := Y0.mk (LY.out.trans hl_); clear hl_; have hca_v := Y2 Ba.out; have hfa_v := Y4 Ba.out; have hcb_v := Y2 Bb.out; have hfb_v := Y4 Bb.out))
      go_ret
      exact ⟨rfl, lU LY.out⟩
  · go_enter Try.func99, Try.ntmps99
    go_wp2_with (first | ((with_reducible refine Ye (N := 2) rfl ?_); refine YW ?hg (N := 2) ?hd (cs := #[.int .i64 x.p, .int .i64 x.c, .int .i64 x.d]) (t := 82) ?hr ?_; (case hd => rfl); (case hg => rfl); (case hr => first | (go_simp; done) | (go_simp; rfl)); intro ga hg wa hbox hb hl_; replace LY := Y0.mk (lS LY.out hl_); clear hl_; have n0_ := Y0.mk (Y5 (hU HB.out) hb); have n1_ := Y0.mk (hbox); clear HB; have HB := n0_; have Ba := n1_; clear n0_ n1_; clear hb hbox hg; have hca_a := Y2 Ba.out; have hfa_a := Y4 Ba.out) | ((with_reducible refine Ye (N := 3) rfl ?_); refine YW ?hg (N := 3) ?hd (cs := #[.int .i64 y.p, .int .i64 y.c, .int .i64 y.d]) (t := 82) ?hr ?_; (case hd => rfl); (case hg => rfl); (case hr => first | (go_simp; done) | (go_simp; rfl)); intro gb hg wb hbox hb hl_; replace LY := Y0.mk (lS LY.out hl_); clear hl_; have n0_ := Y0.mk (Y5 (hU HB.out) hb); have n1_ := Y0.mk (hbox); replace Ba := Y0.mk (Y3 (bU Ba.out) hb); clear HB; have HB := n0_; have Bb := n1_; clear n0_ n1_; clear hb hbox hg; have hca_b := Y2 Ba.out; have hfa_b := Y4 Ba.out; have hcb_b := Y2 Bb.out; have hfb_b := Y4 Bb.out) | ((with_reducible refine Yd (f := 75) rfl ?_); refine YG (some 9) rfl rfl Try.func75 (by kernel_rfl) rfl #[.agg #[.int .i64 x.c, .int .i64 x.d], .agg #[.int .i64 y.c, .int .i64 y.d]] rfl (by (try simp only [List.map_toArray, List.map_cons, List.map_nil]); first | done | rfl) ?_; (refine (YN.lays _ _ _ _ true _ ((Y1t _ _ _ _).trans (congrArg some h1))).mono ?_); rintro e wu ⟨rfl, hl_⟩; refine ⟨_, rfl, ?_⟩; replace Ba := Y0.mk (Y3 (bU Ba.out) hl_.below); replace Bb := Y0.mk (Y3 (bU Bb.out) hl_.below); replace LY := Y0.mk (LY.out.trans hl_); clear hl_; have hca_u := Y2 Ba.out; have hfa_u := Y4 Ba.out; have hcb_u := Y2 Bb.out; have hfb_u := Y4 Bb.out))
    go_ret
    exact ⟨rfl, lU LY.out⟩
set_option maxHeartbeats 8000000 in
set_option maxRecDepth 100000 in
theorem Y3H (k : Nat) (x y : S28) (t : Bool) (hL : YE.f k x.f0 x.f1 x.f2 x.f3 x.f4 x.f5 x.f6 y.f0 y.f1 y.f2 y.f3 y.f4 y.f5 y.f6 = some t) (w : World) : Calls Try.prog 69 #[.agg #[.int .i64 x.f0, .int .i64 x.f1, .int .i64 x.f2, .int .i64 x.f3, .int .i64 x.f4, .int .i64 x.f5, .int .i64 x.f6], .agg #[.int .i64 y.f0, .int .i64 y.f1, .int .i64 y.f2, .int .i64 y.f3, .int .i64 y.f4, .int .i64 y.f5, .int .i64 y.f6]] w fun e w' => e = .returned (.int .i64 (if t = true then -1 else 1)) ∧ Lays w w' := by
  have hu28 := Try.underlying28
  have HB := Y0.mk (Below.refl w.heap.size w)
  have LY := Y0.mk (Lays.refl w)
  have HL := Y0.mk hL
  clear hL
  cases t
  · go_enter Try.func69, Try.ntmps69
    go_wp2_with (first | ((with_reducible refine Ye (N := 2) rfl ?_); refine YW ?hg (N := 2) ?hd (cs := #[.int .i64 x.f0, .int .i64 x.f1, .int .i64 x.f2, .int .i64 x.f3, .int .i64 x.f4, .int .i64 x.f5, .int .i64 x.f6]) (t := 28) ?hr ?_; (case hd => rfl); (case hg => rfl); (case hr => first | (go_simp; done) | (go_simp; rfl)); intro ga hg wa hbox hb hl_; replace LY := Y0.mk (lS LY.out hl_); clear hl_; have n0_ := Y0.mk (Y5 (hU HB.out) hb); have n1_ := Y0.mk (hbox); clear HB; have HB := n0_; have Ba := n1_; clear n0_ n1_; clear hb hbox hg; have hca_a := Y2 Ba.out; have hfa_a := Y4 Ba.out) | ((with_reducible refine Ye (N := 3) rfl ?_); refine YW ?hg (N := 3) ?hd (cs := #[.int .i64 y.f0, .int .i64 y.f1, .int .i64 y.f2, .int .i64 y.f3, .int .i64 y.f4, .int .i64 y.f5, .int .i64 y.f6]) (t := 28) ?hr ?_; (case hd => rfl); (case hg => rfl); (case hr => first | (go_simp; done) | (go_simp; rfl)); intro gb hg wb hbox hb hl_; replace LY := Y0.mk (lS LY.out hl_); clear hl_; have n0_ := Y0.mk (Y5 (hU HB.out) hb); have n1_ := Y0.mk (hbox); replace Ba := Y0.mk (Y3 (bU Ba.out) hb); clear HB; have HB := n0_; have Bb := n1_; clear n0_ n1_; clear hb hbox hg; have hca_b := Y2 Ba.out; have hfa_b := Y4 Ba.out; have hcb_b := Y2 Bb.out; have hfb_b := Y4 Bb.out) | ((with_reducible refine Yd (f := 70) rfl ?_); refine YG (some 7) rfl rfl Try.func70 (by kernel_rfl) rfl #[.agg #[.int .i64 x.f0, .int .i64 x.f1, .int .i64 x.f2, .int .i64 x.f3, .int .i64 x.f4, .int .i64 x.f5, .int .i64 x.f6], .agg #[.int .i64 y.f0, .int .i64 y.f1, .int .i64 y.f2, .int .i64 y.f3, .int .i64 y.f4, .int .i64 y.f5, .int .i64 y.f6]] rfl (by (try simp only [List.map_toArray, List.map_cons, List.map_nil]); first | done | rfl) ?_; (refine (YE.lays k _ _ _ _ _ _ _ _ _ _ _ _ _ _ _ _ HL.out).mono ?_); rintro e wu ⟨rfl, hl_⟩; refine ⟨_, rfl, ?_⟩; replace Ba := Y0.mk (Y3 (bU Ba.out) hl_.below); replace Bb := Y0.mk (Y3 (bU Bb.out) hl_.below); replace LY := Y0.mk (LY.out.trans hl_); clear hl_; have hca_u := Y2 Ba.out; have hfa_u := Y4 Ba.out; have hcb_u := Y2 Bb.out; have hfb_u := Y4 Bb.out))
    go_ret
    exact ⟨rfl, lU LY.out⟩
  · go_enter Try.func69, Try.ntmps69
    go_wp2_with (first | ((with_reducible refine Ye (N := 2) rfl ?_); refine YW ?hg (N := 2) ?hd (cs := #[.int .i64 x.f0, .int .i64 x.f1, .int .i64 x.f2, .int .i64 x.f3, .int .i64 x.f4, .int .i64 x.f5, .int .i64 x.f6]) (t := 28) ?hr ?_; (case hd => rfl); (case hg => rfl); (case hr => first | (go_simp; done) | (go_simp; rfl)); intro ga hg wa hbox hb hl_; replace LY := Y0.mk (lS LY.out hl_); clear hl_; have n0_ := Y0.mk (Y5 (hU HB.out) hb); have n1_ := Y0.mk (hbox); clear HB; have HB := n0_; have Ba := n1_; clear n0_ n1_; clear hb hbox hg; have hca_a := Y2 Ba.out; have hfa_a := Y4 Ba.out) | ((with_reducible refine Ye (N := 3) rfl ?_); refine YW ?hg (N := 3) ?hd (cs := #[.int .i64 y.f0, .int .i64 y.f1, .int .i64 y.f2, .int .i64 y.f3, .int .i64 y.f4, .int .i64 y.f5, .int .i64 y.f6]) (t := 28) ?hr ?_; (case hd => rfl); (case hg => rfl); (case hr => first | (go_simp; done) | (go_simp; rfl)); intro gb hg wb hbox hb hl_; replace LY := Y0.mk (lS LY.out hl_); clear hl_; have n0_ := Y0.mk (Y5 (hU HB.out) hb); have n1_ := Y0.mk (hbox); replace Ba := Y0.mk (Y3 (bU Ba.out) hb); clear HB; have HB := n0_; have Bb := n1_; clear n0_ n1_; clear hb hbox hg; have hca_b := Y2 Ba.out; have hfa_b := Y4 Ba.out; have hcb_b := Y2 Bb.out; have hfb_b := Y4 Bb.out) | ((with_reducible refine Yd (f := 70) rfl ?_); refine YG (some 7) rfl rfl Try.func70 (by kernel_rfl) rfl #[.agg #[.int .i64 x.f0, .int .i64 x.f1, .int .i64 x.f2, .int .i64 x.f3, .int .i64 x.f4, .int .i64 x.f5, .int .i64 x.f6], .agg #[.int .i64 y.f0, .int .i64 y.f1, .int .i64 y.f2, .int .i64 y.f3, .int .i64 y.f4, .int .i64 y.f5, .int .i64 y.f6]] rfl (by (try simp only [List.map_toArray, List.map_cons, List.map_nil]); first | done | rfl) ?_; (refine (YE.lays k _ _ _ _ _ _ _ _ _ _ _ _ _ _ _ _ HL.out).mono ?_); rintro e wu ⟨rfl, hl_⟩; refine ⟨_, rfl, ?_⟩; replace Ba := Y0.mk (Y3 (bU Ba.out) hl_.below); replace Bb := Y0.mk (Y3 (bU Bb.out) hl_.below); replace LY := Y0.mk (LY.out.trans hl_); clear hl_; have hca_u := Y2 Ba.out; have hfa_u := Y4 Ba.out; have hcb_u := Y2 Bb.out; have hfb_u := Y4 Bb.out))
    go_ret
    exact ⟨rfl, lU LY.out⟩
end Go.Proofs.Yteopkkoblbmggaa.P
end

/- Texts of this claim in one: VP15, VP5, VP6, VOf, VP7, VP8; no condition. -/
import Derived.Test.YteopkkoblbmggaaGreatQZAC
import Derived.Test.YteopkkoblbmggaaGreatQZAE
import Derived.Test.YteopkkoblbmggaaGreatQZAF
import Derived.Deep.Light
section
namespace Go.Proofs.YteopkkoblbmggaaGreat.P
open Go.RowKit Go.Proofs.YteopkkoblbmggaaGreatW.PrintWords Go.Proofs.YteopkkoblbmggaaGreatW.PrintLast Go.Proofs.YteopkkoblbmggaaGreatW.PrintMore
attribute [local go_sem] YW YY Y19 Y1a YM YN YX YZ
set_option linter.unusedVariables false
set_option linter.unusedSimpArgs false
attribute [local go_sem high] eqA46
def Ys.l0 : Nat → List (S46) → List (S46) → Int → Option (Bool)
 | 0, _, _, _ => none
 | k + 1, x0, x1, x5 => if x5 < (x0.length : Int) then (if 0 ≤ x5 then (if x5 < (x1.length : Int) then (if (!(((Y1J x0 x5).f0) == ((Y1J x1 x5).f0)) || (!(((Y1J x0 x5).f1) == ((Y1J x1 x5).f1)))) = true then (some false) else (Ys.l0 k x0 x1 (wrap64 (x5 + 1)))) else (none)) else (none)) else (some true)
def Ys.f (k : Nat) (l0 : List (S46)) (l1 : List (S46)) : Option (Bool) := if (l0.length : Int) = (l1.length : Int) then (Ys.l0 k l0 l1 0) else (some false)
theorem Ys.mono_l : ∀ k, (∀ y0 y1 y2, LeO (Ys.l0 k y0 y1 y2) (Ys.l0 (k + 1) y0 y1 y2))
 | 0 => fun _ _ _ r h => by simp [Ys.l0] at h
 | k + 1 => by
  have ih0 := Ys.mono_l k
  ·intro y0 y1 y2; unfold Ys.l0
   repeat' first
   | (with_reducible exact ih0 _ _ _)
   | (with_reducible exact LeO.refl _)
   | (with_reducible exact LeO.none _)
   | (with_reducible refine LeO.ite ?_ ?_)
   | (with_reducible refine LeO.bind ?_ (fun _ => ?_))
theorem Ys.mono : ∀ a0 a1 k, LeO (Ys.f k a0 a1) (Ys.f (k + 1) a0 a1) := by
 intro a0 a1 k; have ih0 := Ys.mono_l k; unfold Ys.f
 repeat' first
   | (with_reducible exact ih0 _ _ _)
   | (with_reducible exact LeO.refl _)
   | (with_reducible exact LeO.none _)
   | (with_reducible refine LeO.ite ?_ ?_)
   | (with_reducible refine LeO.bind ?_ (fun _ => ?_))
set_option maxHeartbeats 8000000 in
set_option maxRecDepth 100000 in
theorem Ys.calls (k : Nat) (A0 : Option Addr) (c0 : Nat) (l0 : List (S46)) (A1 : Option Addr) (c1 : Nat) (l1 : List (S46)) (r : Bool) (w : World) (hr0 : Kd.C k46 w A0 l0.length l0) (hc0 : l0.length ≤ c0) (hr1 : Kd.C k46 w A1 l1.length l1) (hc1 : l1.length ≤ c1) (h : Ys.f k l0 l1 = some r) :
  Calls Tryz.prog 19 #[.slice A0 l0.length c0, .slice A1 l1.length c1] w fun e w' => e = .returned (.bool r) ∧ Drawn0 w w' := by
 have hu46 := Tryz.underlying46; have HR0 := Y0.mk hr0; have HC0 := Y0.mk hc0; clear hr0 hc0; have HR1 := Y0.mk hr1; have HC1 := Y0.mk hc1; clear hr1 hc1; have H : (if (l0.length : Int) = (l1.length : Int) then (Ys.l0 k l0 l1 0) else (some false)) = some r := h; clear h; by_cases c3 : (l0.length : Int) = (l1.length : Int)
 ·rw [if_pos c3] at H; have c3b0 := bqT c3; have c3b1 := bnF c3; have c3b2 : (l0.length == l1.length) = true := by first | simpa using c3 | (simp at c3 ⊢; omega)
  clear c3; have H' := Y0.mk H; clear H; go_enter Tryz.func19, Tryz.ntmps19
  go_wp2
  repeat (go_quiet (fail); try go_wp2)
  go_loopg [5] k (fun kq v5 w' => ∃ (x5_1 : Int), v5 = .int .i64 x5_1 ∧ Y0 (Ys.l0 kq l0 l1 x5_1 = some r) ∧ Y0 (kq ≤ k) ∧ Drawn0 w w')
  case atStart => exact ⟨(0), reS, H', ⟨Nat.le_refl _⟩, dS⟩
  case round =>
   clear H'; (try clear c1); (try clear c3); (try clear c3b0); (try clear c3b1); (try clear c3b2); obtain ⟨x5_1, rfl, HA, HK1, ⟨m1, rfl⟩⟩ := hrel; cases gk with
   | zero => exact absurd HA.out (by simp [Ys.l0])
   | succ k1 =>
    have H := HA.out; clear HA; simp only [Ys.l0] at H; by_cases c4 : x5_1 < (l0.length : Int)
    ·rw [if_pos c4] at H; have c4b0 := decide_eq_true c4; clear c4; obtain ⟨c5, H⟩ := iS H; have c5b0 := decide_eq_true c5; clear c5; obtain ⟨c6, H⟩ := iS H; have c6b0 := decide_eq_true c6; clear c6; by_cases c7 : (!(((Y1J l0 x5_1).f0) == ((Y1J l1 x5_1).f0)) || (!(((Y1J l0 x5_1).f1) == ((Y1J l1 x5_1).f1)))) = true
     ·rw [if_pos c7] at H; have c7b0 : (!(((Y1J l0 x5_1).f0) == ((Y1J l1 x5_1).f0)) || (!(((Y1J l0 x5_1).f1) == ((Y1J l1 x5_1).f1)))) = true := c7; clear c7; obtain rfl := Option.some.inj H; have p216 : 0 ≤ (x5_1 : Int) := of_decide_eq_true (by first | (with_reducible assumption) | assumption); have q216 : x5_1 < (l0.length : Int) := of_decide_eq_true (by first | (with_reducible assumption) | assumption); obtain ⟨d_0, e216, m_1, m_0⟩ := Y3P HR0.out x5_1 p216 q216; cases e216
      replace p216 := eq_true p216; replace q216 := eq_true q216; have p217 : 0 ≤ (x5_1 : Int) := of_decide_eq_true (by first | (with_reducible assumption) | assumption); have q217 : x5_1 < (l1.length : Int) := of_decide_eq_true (by first | (with_reducible assumption) | assumption); obtain ⟨d_1, e217, m_2, m_3⟩ := Y3P HR1.out x5_1 p217 q217; cases e217
      replace p217 := eq_true p217; replace q217 := eq_true q217; go_wp2
      repeat (go_quiet (fail); try go_wp2)
      go_ret
      exact ⟨reS, dS⟩
     ·rw [if_neg c7] at H; have c7b0 : (!(((Y1J l0 x5_1).f0) == ((Y1J l1 x5_1).f0)) || (!(((Y1J l0 x5_1).f1) == ((Y1J l1 x5_1).f1)))) = false := by simpa using c7
      clear c7; have H' := Y0.mk H; clear H; have p216 : 0 ≤ (x5_1 : Int) := of_decide_eq_true (by first | (with_reducible assumption) | assumption); have q216 : x5_1 < (l0.length : Int) := of_decide_eq_true (by first | (with_reducible assumption) | assumption); obtain ⟨d_0, e216, m_1, m_0⟩ := Y3P HR0.out x5_1 p216 q216; cases e216
      replace p216 := eq_true p216; replace q216 := eq_true q216; have p217 : 0 ≤ (x5_1 : Int) := of_decide_eq_true (by first | (with_reducible assumption) | assumption); have q217 : x5_1 < (l1.length : Int) := of_decide_eq_true (by first | (with_reducible assumption) | assumption); obtain ⟨d_1, e217, m_2, m_3⟩ := Y3P HR1.out x5_1 p217 q217; cases e217
      replace p217 := eq_true p217; replace q217 := eq_true q217; go_wp2
      repeat (go_quiet (fail); try go_wp2)
      go_roundg k1
      case measure => have := HK1.out; omega
      case rel => exact ⟨(wrap64 (x5_1 + 1)), reS, H', ⟨by have := HK1.out; omega⟩, dS⟩
    ·rw [if_neg c4] at H; have c4b0 := decide_eq_false c4; clear c4; obtain rfl := Option.some.inj H; go_wp2
     repeat (go_quiet (fail); try go_wp2)
     go_ret
     exact ⟨reS, dS⟩
 ·rw [if_neg c3] at H; have c3b0 := bqF c3; have c3b1 := bnT c3; have c3b2 : (l0.length == l1.length) = false := by first | simpa using c3 | (simp at c3 ⊢; omega)
  obtain rfl := Option.some.inj H; go_enter Tryz.func19, Tryz.ntmps19
  go_wp2
  repeat (go_quiet (fail); try go_wp2)
  go_ret
  exact ⟨reS, dS⟩
end Go.Proofs.YteopkkoblbmggaaGreat.P
end
section
namespace Go.Proofs.YteopkkoblbmggaaGreat.P
open Go.RowKit Go.Proofs.YteopkkoblbmggaaGreatW.PrintWords Go.Proofs.YteopkkoblbmggaaGreatW.PrintLast Go.Proofs.YteopkkoblbmggaaGreatW.PrintMore
attribute [local go_sem] YW YY Y19 Y1a YM YN YX YZ
set_option linter.unusedVariables false
set_option linter.unusedSimpArgs false
def Y1p.f (a0_0 : Int) (a0_1 : Int) : Option (Bool) := if a0_0 ≥ 1 then (if a0_0 ≤ 1000000 then (if a0_1 ≥ 1 then (some (decide (a0_1 ≤ 64))) else (some false)) else (some false)) else (some false)
set_option maxHeartbeats 8000000 in
set_option maxRecDepth 100000 in
theorem Y1p.calls (a0_0 : Int) (a0_1 : Int) (r : Bool) (w : World) (h : Y1p.f a0_0 a0_1 = some r) :
  Calls Tryz.prog 53 #[.agg #[.int .i64 a0_0, .int .i64 a0_1]] w fun e w' => e = .returned (.bool r) ∧ Below w.heap.size w w' := by
 have hu46 := Tryz.underlying46; have HB := Y0.mk (Below.refl w.heap.size w); have H : (if a0_0 ≥ 1 then (if a0_0 ≤ 1000000 then (if a0_1 ≥ 1 then (some (decide (a0_1 ≤ 64))) else (some false)) else (some false)) else (some false)) = some r := h; clear h; by_cases c2 : a0_0 ≥ 1
 ·rw [if_pos c2] at H; have c2b0 := decide_eq_true c2; clear c2; by_cases c3 : a0_0 ≤ 1000000
  ·rw [if_pos c3] at H; have c3b0 := decide_eq_true c3; clear c3; by_cases c4 : a0_1 ≥ 1
   ·rw [if_pos c4] at H; have c4b0 := decide_eq_true c4; clear c4; obtain rfl := Option.some.inj H; go_enter Tryz.func53, Tryz.ntmps53
    go_wp2_with (first | ((with_reducible refine Yf (N := 1) rfl ?_); refine Yi ?hg (N := 1) ?hd (cs := #[.int .i64 a0_0, .int .i64 a0_1]) (t := 46) ?hr ?_; (case hd => rfl); (case hg => rfl); (case hr => first | (go_simp; done) | (go_simp; rfl)); intro g_1 hg w5 hbox hb; have n0_ := Y0.mk (Y5 (hU HB.out) hb); have n1_ := Y0.mk (hbox); have n2_ := gE hg HB; have n3_ := gE hg HB; clear HB; have HB := n0_; have B_1 := n1_; have W_1 := n2_; have G_1 := n3_; clear n0_ n1_ n2_ n3_; clear hb hbox hg; have z_8 := Y2 B_1.out; have f_8 := Y4 B_1.out))
    go_ret
    exact ⟨reT, hU HB.out⟩
   ·rw [if_neg c4] at H; have c4b0 := decide_eq_false c4; clear c4; obtain rfl := Option.some.inj H; go_enter Tryz.func53, Tryz.ntmps53
    go_wp2_with (first | ((with_reducible refine Yf (N := 1) rfl ?_); refine Yi ?hg (N := 1) ?hd (cs := #[.int .i64 a0_0, .int .i64 a0_1]) (t := 46) ?hr ?_; (case hd => rfl); (case hg => rfl); (case hr => first | (go_simp; done) | (go_simp; rfl)); intro g_1 hg w7 hbox hb; have n0_ := Y0.mk (Y5 (hU HB.out) hb); have n1_ := Y0.mk (hbox); have n2_ := gE hg HB; have n3_ := gE hg HB; clear HB; have HB := n0_; have B_1 := n1_; have W_1 := n2_; have G_1 := n3_; clear n0_ n1_ n2_ n3_; clear hb hbox hg; have z_0 := Y2 B_1.out; have f_3 := Y4 B_1.out))
    go_ret
    exact ⟨reT, hU HB.out⟩
  ·rw [if_neg c3] at H; have c3b0 := decide_eq_false c3; clear c3; obtain rfl := Option.some.inj H; go_enter Tryz.func53, Tryz.ntmps53
   go_wp2_with (first | ((with_reducible refine Yf (N := 1) rfl ?_); refine Yi ?hg (N := 1) ?hd (cs := #[.int .i64 a0_0, .int .i64 a0_1]) (t := 46) ?hr ?_; (case hd => rfl); (case hg => rfl); (case hr => first | (go_simp; done) | (go_simp; rfl)); intro g_1 hg w9 hbox hb; have n0_ := Y0.mk (Y5 (hU HB.out) hb); have n1_ := Y0.mk (hbox); have n2_ := gE hg HB; have n3_ := gE hg HB; clear HB; have HB := n0_; have B_1 := n1_; have W_1 := n2_; have G_1 := n3_; clear n0_ n1_ n2_ n3_; clear hb hbox hg; have z_1 := Y2 B_1.out; have f_2 := Y4 B_1.out))
   go_ret
   exact ⟨reT, hU HB.out⟩
 ·rw [if_neg c2] at H; have c2b0 := decide_eq_false c2; clear c2; obtain rfl := Option.some.inj H; go_enter Tryz.func53, Tryz.ntmps53
  go_wp2_with (first | ((with_reducible refine Yf (N := 1) rfl ?_); refine Yi ?hg (N := 1) ?hd (cs := #[.int .i64 a0_0, .int .i64 a0_1]) (t := 46) ?hr ?_; (case hd => rfl); (case hg => rfl); (case hr => first | (go_simp; done) | (go_simp; rfl)); intro g_1 hg w11 hbox hb; have n0_ := Y0.mk (Y5 (hU HB.out) hb); have n1_ := Y0.mk (hbox); have n2_ := gE hg HB; have n3_ := gE hg HB; clear HB; have HB := n0_; have B_1 := n1_; have W_1 := n2_; have G_1 := n3_; clear n0_ n1_ n2_ n3_; clear hb hbox hg; have z_2 := Y2 B_1.out; have f_5 := Y4 B_1.out))
  go_ret
  exact ⟨reT, hU HB.out⟩
def Y1q.f (a0 : Int) : Option (Bool) := if a0 = 0 then (some true) else (some (a0 == 1))
set_option maxHeartbeats 8000000 in
set_option maxRecDepth 100000 in
theorem Y1q.calls (a0 : Int) (r : Bool) (w : World) (h : Y1q.f a0 = some r) :
  Calls Tryz.prog 92 #[.int .i64 a0] w fun e w' => e = .returned (.bool r) ∧ Drawn0 w w' := by
 have H : (if a0 = 0 then (some true) else (some (a0 == 1))) = some r := h; clear h; by_cases c2 : a0 = 0
 ·rw [if_pos c2] at H; have c2b0 := bqT c2; have c2b1 := bnF c2; clear c2; obtain rfl := Option.some.inj H; go_enter Tryz.func92, Tryz.ntmps92
  go_wp2
  go_ret
  exact ⟨reS, dS⟩
 ·rw [if_neg c2] at H; have c2b0 := bqF c2; have c2b1 := bnT c2; obtain rfl := Option.some.inj H; go_enter Tryz.func92, Tryz.ntmps92
  go_wp2
  go_ret
  exact ⟨reS, dS⟩
def Y1r.f (a0_0 : Int) (a0_1 : Int) (a0_2 : Int) (a0_3 : Int) (a0_4 : Int) (a0_5 : Int) (a0_6 : Int) : Option (Bool) := if a0_0 = 1 then ((Y1q.f a0_1).bind fun t_2 => (some t_2)) else (if a0_0 = 2 then ((Y1q.f a0_1).bind fun t_0 => (some t_0)) else (if a0_0 = 3 then (if a0_1 ≥ 2 then (some (decide (a0_1 < 8))) else (some false)) else (some (a0_1 == 8))))
set_option maxHeartbeats 8000000 in
set_option maxRecDepth 100000 in
theorem Y1r.calls (a0_0 : Int) (a0_1 : Int) (a0_2 : Int) (a0_3 : Int) (a0_4 : Int) (a0_5 : Int) (a0_6 : Int) (r : Bool) (w : World) (h : Y1r.f a0_0 a0_1 a0_2 a0_3 a0_4 a0_5 a0_6 = some r) :
  Calls Tryz.prog 73 #[.agg #[.int .i64 a0_0, .int .i64 a0_1, .int .i64 a0_2, .int .i64 a0_3, .int .i64 a0_4, .int .i64 a0_5, .int .i64 a0_6]] w fun e w' => e = .returned (.bool r) ∧ Below w.heap.size w w' := by
 have hu42 := Tryz.underlying42; have HB := Y0.mk (Below.refl w.heap.size w); have H : (if a0_0 = 1 then ((Y1q.f a0_1).bind fun t_2 => (some t_2)) else (if a0_0 = 2 then ((Y1q.f a0_1).bind fun t_0 => (some t_0)) else (if a0_0 = 3 then (if a0_1 ≥ 2 then (some (decide (a0_1 < 8))) else (some false)) else (some (a0_1 == 8))))) = some r := h; clear h; by_cases c2 : a0_0 = 1
 ·rw [if_pos c2] at H; have c2b0 := bqT c2; have c2b1 := bnF c2; clear c2; obtain ⟨t_2, A30, H⟩ := bS H; replace H : (some t_2) = some r := H; have A3 := Y0.mk A30; clear A30; obtain rfl := Option.some.inj H; go_enter Tryz.func73, Tryz.ntmps73
  go_wp2_with (first | ((with_reducible refine Yf (N := 1) rfl ?_); refine Yi ?hg (N := 1) ?hd (cs := #[.int .i64 a0_0, .int .i64 a0_1, .int .i64 a0_2, .int .i64 a0_3, .int .i64 a0_4, .int .i64 a0_5, .int .i64 a0_6]) (t := 42) ?hr ?_; (case hd => rfl); (case hg => rfl); (case hr => first | (go_simp; done) | (go_simp; rfl)); intro g_0 hg w4 hbox hb; have n0_ := Y0.mk (Y5 (hU HB.out) hb); have n1_ := Y0.mk (hbox); have n2_ := gE hg HB; have n3_ := gE hg HB; clear HB; have HB := n0_; have B_0 := n1_; have W_0 := n2_; have G_0 := n3_; clear n0_ n1_ n2_ n3_; clear hb hbox hg; have z_5 := Y2 B_0.out; have f_7 := Y4 B_0.out) | ((with_reducible refine Ye (f := 92) rfl ?_); refine goesA (some 13) Tryz.func92 #[.int .i64 a0_1] ?_; (with_reducible refine (Y1q.calls a0_1 t_2 _ A3.out).mono ?_); rintro e w' ⟨rfl, ⟨nd, rfl⟩⟩; refine ⟨_, rfl, ?_⟩))
  go_ret
  exact ⟨reT, hU HB.out⟩
 ·rw [if_neg c2] at H; have c2b0 := bqF c2; have c2b1 := bnT c2; by_cases c6 : a0_0 = 2
  ·rw [if_pos c6] at H; have c6b0 := bqT c6; have c6b1 := bnF c6; clear c6; obtain ⟨t_0, A70, H⟩ := bS H; replace H : (some t_0) = some r := H; have A7 := Y0.mk A70; clear A70; obtain rfl := Option.some.inj H; go_enter Tryz.func73, Tryz.ntmps73
   go_wp2_with (first | ((with_reducible refine Yf (N := 1) rfl ?_); refine Yi ?hg (N := 1) ?hd (cs := #[.int .i64 a0_0, .int .i64 a0_1, .int .i64 a0_2, .int .i64 a0_3, .int .i64 a0_4, .int .i64 a0_5, .int .i64 a0_6]) (t := 42) ?hr ?_; (case hd => rfl); (case hg => rfl); (case hr => first | (go_simp; done) | (go_simp; rfl)); intro g_0 hg w8 hbox hb; have n0_ := Y0.mk (Y5 (hU HB.out) hb); have n1_ := Y0.mk (hbox); have n2_ := gE hg HB; have n3_ := gE hg HB; clear HB; have HB := n0_; have B_0 := n1_; have W_0 := n2_; have G_0 := n3_; clear n0_ n1_ n2_ n3_; clear hb hbox hg; have z_7 := Y2 B_0.out; have f_1 := Y4 B_0.out) | ((with_reducible refine Ye (f := 92) rfl ?_); refine goesA (some 13) Tryz.func92 #[.int .i64 a0_1] ?_; (with_reducible refine (Y1q.calls a0_1 t_0 _ A7.out).mono ?_); rintro e w' ⟨rfl, ⟨nd, rfl⟩⟩; refine ⟨_, rfl, ?_⟩))
   go_ret
   exact ⟨reT, hU HB.out⟩
  ·rw [if_neg c6] at H; have c6b0 := bqF c6; have c6b1 := bnT c6; by_cases c10 : a0_0 = 3
   ·rw [if_pos c10] at H; have c10b0 := bqT c10; have c10b1 := bnF c10; clear c10; by_cases c11 : a0_1 ≥ 2
    ·rw [if_pos c11] at H; have c11b0 := decide_eq_true c11; clear c11; obtain rfl := Option.some.inj H; go_enter Tryz.func73, Tryz.ntmps73
     go_wp2_with (first | ((with_reducible refine Yf (N := 1) rfl ?_); refine Yi ?hg (N := 1) ?hd (cs := #[.int .i64 a0_0, .int .i64 a0_1, .int .i64 a0_2, .int .i64 a0_3, .int .i64 a0_4, .int .i64 a0_5, .int .i64 a0_6]) (t := 42) ?hr ?_; (case hd => rfl); (case hg => rfl); (case hr => first | (go_simp; done) | (go_simp; rfl)); intro g_0 hg w12 hbox hb; have n0_ := Y0.mk (Y5 (hU HB.out) hb); have n1_ := Y0.mk (hbox); have n2_ := gE hg HB; have n3_ := gE hg HB; clear HB; have HB := n0_; have B_0 := n1_; have W_0 := n2_; have G_0 := n3_; clear n0_ n1_ n2_ n3_; clear hb hbox hg; have z_3 := Y2 B_0.out; have f_6 := Y4 B_0.out))
     go_ret
     exact ⟨reT, hU HB.out⟩
    ·rw [if_neg c11] at H; have c11b0 := decide_eq_false c11; clear c11; obtain rfl := Option.some.inj H; go_enter Tryz.func73, Tryz.ntmps73
     go_wp2_with (first | ((with_reducible refine Yf (N := 1) rfl ?_); refine Yi ?hg (N := 1) ?hd (cs := #[.int .i64 a0_0, .int .i64 a0_1, .int .i64 a0_2, .int .i64 a0_3, .int .i64 a0_4, .int .i64 a0_5, .int .i64 a0_6]) (t := 42) ?hr ?_; (case hd => rfl); (case hg => rfl); (case hr => first | (go_simp; done) | (go_simp; rfl)); intro g_0 hg w14 hbox hb; have n0_ := Y0.mk (Y5 (hU HB.out) hb); have n1_ := Y0.mk (hbox); have n2_ := gE hg HB; have n3_ := gE hg HB; clear HB; have HB := n0_; have B_0 := n1_; have W_0 := n2_; have G_0 := n3_; clear n0_ n1_ n2_ n3_; clear hb hbox hg; have z_6 := Y2 B_0.out; have f_4 := Y4 B_0.out))
     go_ret
     exact ⟨reT, hU HB.out⟩
   ·rw [if_neg c10] at H; have c10b0 := bqF c10; have c10b1 := bnT c10; obtain rfl := Option.some.inj H; go_enter Tryz.func73, Tryz.ntmps73
    go_wp2_with (first | ((with_reducible refine Yf (N := 1) rfl ?_); refine Yi ?hg (N := 1) ?hd (cs := #[.int .i64 a0_0, .int .i64 a0_1, .int .i64 a0_2, .int .i64 a0_3, .int .i64 a0_4, .int .i64 a0_5, .int .i64 a0_6]) (t := 42) ?hr ?_; (case hd => rfl); (case hg => rfl); (case hr => first | (go_simp; done) | (go_simp; rfl)); intro g_0 hg w16 hbox hb; have n0_ := Y0.mk (Y5 (hU HB.out) hb); have n1_ := Y0.mk (hbox); have n2_ := gE hg HB; have n3_ := gE hg HB; clear HB; have HB := n0_; have B_0 := n1_; have W_0 := n2_; have G_0 := n3_; clear n0_ n1_ n2_ n3_; clear hb hbox hg; have z_4 := Y2 B_0.out; have f_0 := Y4 B_0.out))
    go_ret
    exact ⟨reT, hU HB.out⟩
def dir_valid.f (a0 : Int) : Option (Bool) := if a0 ≥ 0 then (some (decide (a0 ≤ 8))) else (some false)
set_option maxHeartbeats 8000000 in
set_option maxRecDepth 100000 in
theorem dir_valid.calls (a0 : Int) (r : Bool) (w : World) (h : dir_valid.f a0 = some r) :
  Calls Tryz.prog 103 #[.int .i64 a0] w fun e w' => e = .returned (.bool r) ∧ Drawn0 w w' := by
 have H : (if a0 ≥ 0 then (some (decide (a0 ≤ 8))) else (some false)) = some r := h; clear h; by_cases c2 : a0 ≥ 0
 ·rw [if_pos c2] at H; have c2b0 := decide_eq_true c2; clear c2; obtain rfl := Option.some.inj H; go_enter Tryz.func103, Tryz.ntmps103
  go_wp2
  go_ret
  exact ⟨reS, dS⟩
 ·rw [if_neg c2] at H; have c2b0 := decide_eq_false c2; clear c2; obtain rfl := Option.some.inj H; go_enter Tryz.func103, Tryz.ntmps103
  go_wp2
  go_ret
  exact ⟨reS, dS⟩
def dir_Check.f (a0 : Int) (a1 : Int) : Option (Int) := (dir_valid.f a0).bind fun t_1 => (if t_1 = true then (if a1 < (-1) then (some 1) else (if a1 > 1 then (some 1) else (some 0))) else (some 1))
set_option maxHeartbeats 8000000 in
set_option maxRecDepth 100000 in
theorem dir_Check.calls (a0 : Int) (a1 : Int) (r : Int) (w : World) (h : dir_Check.f a0 a1 = some r) :
  Calls Tryz.prog 93 #[.int .i64 a0, .int .i64 a1] w fun e w' => e = .returned (.int .i64 r) ∧ Drawn0 w w' := by
 have H : ((dir_valid.f a0).bind fun t_1 => (if t_1 = true then (if a1 < (-1) then (some 1) else (if a1 > 1 then (some 1) else (some 0))) else (some 1))) = some r := h; clear h; obtain ⟨t_1, A30, H⟩ := bS H; replace H : (if t_1 = true then (if a1 < (-1) then (some 1) else (if a1 > 1 then (some 1) else (some 0))) else (some 1)) = some r := H; have A3 := Y0.mk A30; clear A30; by_cases c4 : t_1 = true
 ·subst c4; have H1 : (if a1 < (-1) then (some 1) else (if a1 > 1 then (some 1) else (some 0))) = some r := by rw [if_pos rfl] at H; exact H
  clear H; have H := H1; clear H1; by_cases c5 : a1 < (-1)
  ·rw [if_pos c5] at H; have c5b0 := decide_eq_true c5; clear c5; obtain rfl := Option.some.inj H; go_enter Tryz.func93, Tryz.ntmps93
   go_wp2_with (first | ((with_reducible refine Ye (f := 103) rfl ?_); refine goesA (some 6) Tryz.func103 #[.int .i64 a0] ?_; (with_reducible refine (dir_valid.calls a0 true _ A3.out).mono ?_); rintro e w' ⟨rfl, ⟨nd, rfl⟩⟩; refine ⟨_, rfl, ?_⟩))
   go_ret
   exact ⟨reS, dS⟩
  ·rw [if_neg c5] at H; have c5b0 := decide_eq_false c5; clear c5; by_cases c6 : a1 > 1
   ·rw [if_pos c6] at H; have c6b0 := decide_eq_true c6; clear c6; obtain rfl := Option.some.inj H; go_enter Tryz.func93, Tryz.ntmps93
    go_wp2_with (first | ((with_reducible refine Ye (f := 103) rfl ?_); refine goesA (some 6) Tryz.func103 #[.int .i64 a0] ?_; (with_reducible refine (dir_valid.calls a0 true _ A3.out).mono ?_); rintro e w' ⟨rfl, ⟨nd, rfl⟩⟩; refine ⟨_, rfl, ?_⟩))
    go_ret
    exact ⟨reS, dS⟩
   ·rw [if_neg c6] at H; have c6b0 := decide_eq_false c6; clear c6; obtain rfl := Option.some.inj H; go_enter Tryz.func93, Tryz.ntmps93
    go_wp2_with (first | ((with_reducible refine Ye (f := 103) rfl ?_); refine goesA (some 6) Tryz.func103 #[.int .i64 a0] ?_; (with_reducible refine (dir_valid.calls a0 true _ A3.out).mono ?_); rintro e w' ⟨rfl, ⟨nd, rfl⟩⟩; refine ⟨_, rfl, ?_⟩))
    go_ret
    exact ⟨reS, dS⟩
 ·replace c4 := Bool.eq_false_iff.mpr c4; subst c4; have H1 : (some 1) = some r := by rw [if_neg (show ¬ (false = true) by decide)] at H; exact H
  clear H; have H := H1; clear H1; obtain rfl := Option.some.inj H; go_enter Tryz.func93, Tryz.ntmps93
  go_wp2_with (first | ((with_reducible refine Ye (f := 103) rfl ?_); refine goesA (some 6) Tryz.func103 #[.int .i64 a0] ?_; (with_reducible refine (dir_valid.calls a0 false _ A3.out).mono ?_); rintro e w' ⟨rfl, ⟨nd, rfl⟩⟩; refine ⟨_, rfl, ?_⟩))
  go_ret
  exact ⟨reS, dS⟩
def aim_known.f (a0 : Int) : Option (Bool) := if a0 ≥ 0 then (some (decide (a0 < 6))) else (some false)
set_option maxHeartbeats 8000000 in
set_option maxRecDepth 100000 in
theorem aim_known.calls (a0 : Int) (r : Bool) (w : World) (h : aim_known.f a0 = some r) :
  Calls Tryz.prog 104 #[.int .i64 a0] w fun e w' => e = .returned (.bool r) ∧ Drawn0 w w' := by
 have H : (if a0 ≥ 0 then (some (decide (a0 < 6))) else (some false)) = some r := h; clear h; by_cases c2 : a0 ≥ 0
 ·rw [if_pos c2] at H; have c2b0 := decide_eq_true c2; clear c2; obtain rfl := Option.some.inj H; go_enter Tryz.func104, Tryz.ntmps104
  go_wp2
  go_ret
  exact ⟨reS, dS⟩
 ·rw [if_neg c2] at H; have c2b0 := decide_eq_false c2; clear c2; obtain rfl := Option.some.inj H; go_enter Tryz.func104, Tryz.ntmps104
  go_wp2
  go_ret
  exact ⟨reS, dS⟩
def dir_Eighth.f (a0 : Int) : Option (Int × Int) := (dir_valid.f a0).bind fun t_0 => (if t_0 = true then (if a0 = 0 then (some (0, 18)) else (some (wrap64 (a0 - 1), 0))) else (some (0, 1)))
set_option maxHeartbeats 8000000 in
set_option maxRecDepth 100000 in
theorem dir_Eighth.calls (a0 : Int) (r1 : Int) (r2 : Int) (w : World) (h : dir_Eighth.f a0 = some (r1, r2)) :
  Calls Tryz.prog 105 #[.int .i64 a0] w fun e w' => e = .returned (.tuple #[.int .i64 r1, .int .i64 r2]) ∧ Drawn0 w w' := by
 have H : ((dir_valid.f a0).bind fun t_0 => (if t_0 = true then (if a0 = 0 then (some (0, 18)) else (some (wrap64 (a0 - 1), 0))) else (some (0, 1)))) = some (r1, r2) := h; clear h; obtain ⟨t_0, A20, H⟩ := bS H; replace H : (if t_0 = true then (if a0 = 0 then (some (0, 18)) else (some (wrap64 (a0 - 1), 0))) else (some (0, 1))) = some (r1, r2) := H; have A2 := Y0.mk A20; clear A20; by_cases c3 : t_0 = true
 ·subst c3; have H1 : (if a0 = 0 then (some (0, 18)) else (some (wrap64 (a0 - 1), 0))) = some (r1, r2) := by rw [if_pos rfl] at H; exact H
  clear H; have H := H1; clear H1; by_cases c4 : a0 = 0
  ·rw [if_pos c4] at H; have c4b0 := bqT c4; have c4b1 := bnF c4; clear c4; simp only [Option.some.injEq, Prod.mk.injEq] at H; obtain ⟨rfl, rfl⟩ := H; go_enter Tryz.func105, Tryz.ntmps105
   go_wp2_with (first | ((with_reducible refine Ye (f := 103) rfl ?_); refine goesA (some 5) Tryz.func103 #[.int .i64 a0] ?_; (with_reducible refine (dir_valid.calls a0 true _ A2.out).mono ?_); rintro e w' ⟨rfl, ⟨nd, rfl⟩⟩; refine ⟨_, rfl, ?_⟩))
   go_ret2
   exact ⟨reS, dS⟩
  ·rw [if_neg c4] at H; have c4b0 := bqF c4; have c4b1 := bnT c4; simp only [Option.some.injEq, Prod.mk.injEq] at H; obtain ⟨rfl, rfl⟩ := H; go_enter Tryz.func105, Tryz.ntmps105
   go_wp2_with (first | ((with_reducible refine Ye (f := 103) rfl ?_); refine goesA (some 5) Tryz.func103 #[.int .i64 a0] ?_; (with_reducible refine (dir_valid.calls a0 true _ A2.out).mono ?_); rintro e w' ⟨rfl, ⟨nd, rfl⟩⟩; refine ⟨_, rfl, ?_⟩))
   go_ret2
   exact ⟨reS, dS⟩
 ·replace c3 := Bool.eq_false_iff.mpr c3; subst c3; have H1 : (some (0, 1)) = some (r1, r2) := by rw [if_neg (show ¬ (false = true) by decide)] at H; exact H
  clear H; have H := H1; clear H1; simp only [Option.some.injEq, Prod.mk.injEq] at H; obtain ⟨rfl, rfl⟩ := H; go_enter Tryz.func105, Tryz.ntmps105
  go_wp2_with (first | ((with_reducible refine Ye (f := 103) rfl ?_); refine goesA (some 5) Tryz.func103 #[.int .i64 a0] ?_; (with_reducible refine (dir_valid.calls a0 false _ A2.out).mono ?_); rintro e w' ⟨rfl, ⟨nd, rfl⟩⟩; refine ⟨_, rfl, ?_⟩))
  go_ret2
  exact ⟨reS, dS⟩
end Go.Proofs.YteopkkoblbmggaaGreat.P
end
section
namespace Go.Proofs.YteopkkoblbmggaaGreat.P
open Go.RowKit Go.Proofs.YteopkkoblbmggaaGreatW.PrintWords Go.Proofs.YteopkkoblbmggaaGreatW.PrintLast Go.Proofs.YteopkkoblbmggaaGreatW.PrintMore
set_option linter.unusedVariables false
set_option linter.unusedSimpArgs false
def ofP (a d l b : Int) : Int × Int × Int × Int :=
  if 0 ≤ a ∧ a < 6 then
    if 0 ≤ d ∧ d ≤ 8 ∧ -1 ≤ l ∧ l ≤ 1 then
      if b < 0 ∨ 6 < b then (0, 0, 0, 1)
      else if d = 0 then (if l = 0 ∨ (l = -1 ∧ (a = 2 ∨ a = 5)) then (0, 0, 0, 18) else (0, wrap64 (64 * l), b, 0))
      else (wrap64 (32 * wrap64 (d - 1)), wrap64 (32 * l), b, 0)
    else (0, 0, 0, 1)
  else (0, 0, 0, 9)
def knB (a : Int) : Bool := decide (0 ≤ a ∧ a < 6)
def aim_Of.f (a d l b : Int) : Option (Int × Int × Int × Int) := some (ofP a d l b)
theorem aim_Of.known_eq (a : Int) : aim_known.f a = some (knB a) := by
  unfold aim_known.f knB; by_cases h : 0 ≤ a <;> simp [h]
theorem aim_Of.dcheck_eq (d l : Int) : dir_Check.f d l = some (if 0 ≤ d ∧ d ≤ 8 ∧ -1 ≤ l ∧ l ≤ 1 then 0 else 1) := by
  unfold dir_Check.f dir_valid.f
  repeat' split
  all_goals (simp at *; try omega)
theorem aim_Of.eighth_eq (d : Int) (h : 0 ≤ d ∧ d ≤ 8) (h0 : d ≠ 0) : dir_Eighth.f d = some (wrap64 (d - 1), 0) := by
  unfold dir_Eighth.f dir_valid.f
  simp [h.1, h.2, h0]
set_option maxHeartbeats 1000000 in
set_option maxRecDepth 100000 in
theorem aim_Of.calls (a0 : Int) (a1_0 : Int) (a1_1 : Int) (a1_2 : Int) (r1 : Int) (r2 : Int) (r3 : Int) (r4 : Int) (w : World) (h : aim_Of.f a0 a1_0 a1_1 a1_2 = some (r1, r2, r3, r4)) :
    Calls Tryz.prog 94 #[.int .i64 a0, .agg #[.int .i64 a1_0, .int .i64 a1_1, .int .i64 a1_2]] w fun e w' => e = .returned (.tuple #[.agg #[.int .i64 r1, .int .i64 r2, .int .i64 r3], .int .i64 r4]) ∧ Below w.heap.size w w' := by
  have hu44 := Tryz.underlying109; have hu32 := Tryz.underlying113; have H := Y0.mk (Option.some.inj h).symm; clear h; obtain ⟨c, hc⟩ : ∃ c : Int, c = if 0 ≤ a1_0 ∧ a1_0 ≤ 8 ∧ -1 ≤ a1_1 ∧ a1_1 ≤ 1 then 0 else 1 := ⟨_, rfl⟩
  have HC := Y0.mk hc; have HD := Y0.mk (hc ▸ aim_Of.dcheck_eq a1_0 a1_1); clear hc; go_enter Tryz.func94, Tryz.ntmps94
  go_wp2_with (first | (go_at_call 104; refine (aim_known.calls _ (knB _) _ (aim_Of.known_eq _)).mono ?_; rintro e w' ⟨rfl, ⟨nd, rfl⟩⟩) | (go_at_call 93; refine (dir_Check.calls _ _ c _ HD.out).mono ?_; rintro e w' ⟨rfl, ⟨nd, rfl⟩⟩) | (go_at_call 105; refine (dir_Eighth.calls _ (wrap64 (a1_0 - 1)) 0 _ (aim_Of.eighth_eq _ (by have hc := HC.out; go_light; split at hc <;> simp_all) (by go_light; simp_all))).mono ?_; rintro e w' ⟨rfl, ⟨nd, rfl⟩⟩))
  all_goals (refine bodyPost_ret (by simp [results, Tryz.results94, go_sem]; rfl) rfl ⟨?_, by repeat (first | exact Below.refl _ _ | apply YA | apply Y1A | apply Yx | refine Y2d ?_ (by simp))⟩; go_light)
  all_goals
    have h := H.out; have hc := HC.out; clear H HC HD hu44 hu32; unfold ofP at h; unfold knB at *
    (repeat' split at h) <;> (repeat' split at hc) <;> first | (simp_all; done) | (simp_all [wrap64]; done) | (exfalso; simp_all; omega) | (exfalso; simp at *; omega)
end Go.Proofs.YteopkkoblbmggaaGreat.P
end
section
namespace Go.Proofs.YteopkkoblbmggaaGreat.P
open Go.RowKit Go.Proofs.YteopkkoblbmggaaGreatW.PrintWords Go.Proofs.YteopkkoblbmggaaGreatW.PrintLast Go.Proofs.YteopkkoblbmggaaGreatW.PrintMore
attribute [local go_sem] YW YY Y19 Y1a YM YN YX YZ
set_option linter.unusedVariables false
set_option linter.unusedSimpArgs false
def YO.j0 : Nat → Bool → Int → Int → Int → Int → Int → Int → Int → Option (Int)
 | 0, _, _, _, _, _, _, _, _ => none
 | k + 1, x62, x_4, x_3, x_6, x_5, x_2, x_1, x_0 => if x62 = true then (some 2) else (if x_0 < (-16) then (some 1) else (if x_0 > 16 then (some 1) else (if x_0 = 0 then (some 1) else (some 0))))
def YO.f (k : Nat) (a0_0 : Int) (a0_1 : Int) (a0_2 : Int) (a0_3 : Int) (a0_4 : Int) (a0_5 : Int) (a0_6 : Int) : Option (Int) := if a0_0 = 1 then ((dir_Check.f a0_4 a0_5).bind fun t_0 => (if t_0 = 0 then (if a0_6 = 0 then (some 0) else (some 2)) else (some t_0))) else (if a0_0 = 2 then (if a0_4 = 0 then (if a0_5 = 0 then (if a0_6 = 0 then (some 0) else (some 2)) else (some 2)) else (some 2)) else (if a0_0 = 3 then ((aim_Of.f (wrap64 (a0_1 - 2)) a0_4 a0_5 a0_6).bind fun b_0 => (some b_0.2.2.2)) else (if a0_0 = 4 then (if a0_4 = 0 then (YO.j0 k (a0_5 != 0) a0_0 a0_1 a0_2 a0_3 a0_4 a0_5 a0_6) else (YO.j0 k true a0_0 a0_1 a0_2 a0_3 a0_4 a0_5 a0_6)) else (some 0))))
theorem YO.mono_l : ∀ k, (∀ y0 y1 y2 y3 y4 y5 y6 y7, LeO (YO.j0 k y0 y1 y2 y3 y4 y5 y6 y7) (YO.j0 (k + 1) y0 y1 y2 y3 y4 y5 y6 y7))
 | 0 => fun _ _ _ _ _ _ _ _ r h => by simp [YO.j0] at h
 | k + 1 => by
  have ih0 := YO.mono_l k
  ·intro y0 y1 y2 y3 y4 y5 y6 y7; unfold YO.j0
   repeat' first
   | (with_reducible exact ih0 _ _ _ _ _ _ _ _)
   | (with_reducible exact LeO.refl _)
   | (with_reducible exact LeO.none _)
   | (with_reducible refine LeO.ite ?_ ?_)
   | (with_reducible refine LeO.bind ?_ (fun _ => ?_))
theorem YO.mono : ∀ a0 a1 a2 a3 a4 a5 a6 k, LeO (YO.f k a0 a1 a2 a3 a4 a5 a6) (YO.f (k + 1) a0 a1 a2 a3 a4 a5 a6) := by
 intro a0 a1 a2 a3 a4 a5 a6 k; have ih0 := YO.mono_l k; unfold YO.f
 repeat' first
   | (with_reducible exact ih0 _ _ _ _ _ _ _ _)
   | (with_reducible exact LeO.refl _)
   | (with_reducible exact LeO.none _)
   | (with_reducible refine LeO.ite ?_ ?_)
   | (with_reducible refine LeO.bind ?_ (fun _ => ?_))
set_option maxHeartbeats 8000000 in
set_option maxRecDepth 100000 in
theorem YO.calls (k : Nat) (a0_0 : Int) (a0_1 : Int) (a0_2 : Int) (a0_3 : Int) (a0_4 : Int) (a0_5 : Int) (a0_6 : Int) (r : Int) (w : World) (h : YO.f k a0_0 a0_1 a0_2 a0_3 a0_4 a0_5 a0_6 = some r) :
  Calls Tryz.prog 74 #[.agg #[.int .i64 a0_0, .int .i64 a0_1, .int .i64 a0_2, .int .i64 a0_3, .int .i64 a0_4, .int .i64 a0_5, .int .i64 a0_6]] w fun e w' => e = .returned (.int .i64 r) ∧ Below w.heap.size w w' := by
 have hu42 := Tryz.underlying42; have hu113 := Tryz.underlying113; have hu109 := Tryz.underlying109; have HB := Y0.mk (Below.refl w.heap.size w); have H : (if a0_0 = 1 then ((dir_Check.f a0_4 a0_5).bind fun t_0 => (if t_0 = 0 then (if a0_6 = 0 then (some 0) else (some 2)) else (some t_0))) else (if a0_0 = 2 then (if a0_4 = 0 then (if a0_5 = 0 then (if a0_6 = 0 then (some 0) else (some 2)) else (some 2)) else (some 2)) else (if a0_0 = 3 then ((aim_Of.f (wrap64 (a0_1 - 2)) a0_4 a0_5 a0_6).bind fun b_0 => (some b_0.2.2.2)) else (if a0_0 = 4 then (if a0_4 = 0 then (YO.j0 k (a0_5 != 0) a0_0 a0_1 a0_2 a0_3 a0_4 a0_5 a0_6) else (YO.j0 k true a0_0 a0_1 a0_2 a0_3 a0_4 a0_5 a0_6)) else (some 0))))) = some r := h; clear h; by_cases c2 : a0_0 = 1
 ·rw [if_pos c2] at H; have c2b0 := bqT c2; have c2b1 := bnF c2; clear c2; obtain ⟨t_0, A30, H⟩ := bS H; replace H : (if t_0 = 0 then (if a0_6 = 0 then (some 0) else (some 2)) else (some t_0)) = some r := H; have A3 := Y0.mk A30; clear A30; by_cases c4 : t_0 = 0
  ·rw [if_pos c4] at H; have c4b0 := bqT c4; have c4b1 := bnF c4; clear c4; by_cases c5 : a0_6 = 0
   ·rw [if_pos c5] at H; have c5b0 := bqT c5; have c5b1 := bnF c5; clear c5; obtain rfl := Option.some.inj H; go_enter Tryz.func74, Tryz.ntmps74
    go_wp2_with (first | ((with_reducible refine Yf (N := 1) rfl ?_); refine Yi ?hg (N := 1) ?hd (cs := #[.int .i64 a0_0, .int .i64 a0_1, .int .i64 a0_2, .int .i64 a0_3, .int .i64 a0_4, .int .i64 a0_5, .int .i64 a0_6]) (t := 42) ?hr ?_; (case hd => rfl); (case hg => rfl); (case hr => first | (go_simp; done) | (go_simp; rfl)); intro g_0 hg w6 hbox hb; have n0_ := Y0.mk (Y5 (hU HB.out) hb); have n1_ := Y0.mk (hbox); have n2_ := gE hg HB; have n3_ := gE hg HB; clear HB; have HB := n0_; have B_0 := n1_; have W_0 := n2_; have G_0 := n3_; clear n0_ n1_ n2_ n3_; clear hb hbox hg; have z_1 := Y2 B_0.out; have f_7 := Y4 B_0.out) | ((with_reducible refine Ye (f := 93) rfl ?_); refine goesA (some 14) Tryz.func93 #[.int .i64 a0_4, .int .i64 a0_5] ?_; (with_reducible refine (dir_Check.calls a0_4 a0_5 t_0 _ A3.out).mono ?_); rintro e w' ⟨rfl, ⟨nd, rfl⟩⟩; refine ⟨_, rfl, ?_⟩))
    go_ret
    exact ⟨reT, hU HB.out⟩
   ·rw [if_neg c5] at H; have c5b0 := bqF c5; have c5b1 := bnT c5; obtain rfl := Option.some.inj H; go_enter Tryz.func74, Tryz.ntmps74
    go_wp2_with (first | ((with_reducible refine Yf (N := 1) rfl ?_); refine Yi ?hg (N := 1) ?hd (cs := #[.int .i64 a0_0, .int .i64 a0_1, .int .i64 a0_2, .int .i64 a0_3, .int .i64 a0_4, .int .i64 a0_5, .int .i64 a0_6]) (t := 42) ?hr ?_; (case hd => rfl); (case hg => rfl); (case hr => first | (go_simp; done) | (go_simp; rfl)); intro g_0 hg w8 hbox hb; have n0_ := Y0.mk (Y5 (hU HB.out) hb); have n1_ := Y0.mk (hbox); have n2_ := gE hg HB; have n3_ := gE hg HB; clear HB; have HB := n0_; have B_0 := n1_; have W_0 := n2_; have G_0 := n3_; clear n0_ n1_ n2_ n3_; clear hb hbox hg; have z_b := Y2 B_0.out; have f_1 := Y4 B_0.out) | ((with_reducible refine Ye (f := 93) rfl ?_); refine goesA (some 14) Tryz.func93 #[.int .i64 a0_4, .int .i64 a0_5] ?_; (with_reducible refine (dir_Check.calls a0_4 a0_5 t_0 _ A3.out).mono ?_); rintro e w' ⟨rfl, ⟨nd, rfl⟩⟩; refine ⟨_, rfl, ?_⟩))
    go_ret
    exact ⟨reT, hU HB.out⟩
  ·rw [if_neg c4] at H; have c4b0 := bqF c4; have c4b1 := bnT c4; obtain rfl := Option.some.inj H; go_enter Tryz.func74, Tryz.ntmps74
   go_wp2_with (first | ((with_reducible refine Yf (N := 1) rfl ?_); refine Yi ?hg (N := 1) ?hd (cs := #[.int .i64 a0_0, .int .i64 a0_1, .int .i64 a0_2, .int .i64 a0_3, .int .i64 a0_4, .int .i64 a0_5, .int .i64 a0_6]) (t := 42) ?hr ?_; (case hd => rfl); (case hg => rfl); (case hr => first | (go_simp; done) | (go_simp; rfl)); intro g_0 hg w10 hbox hb; have n0_ := Y0.mk (Y5 (hU HB.out) hb); have n1_ := Y0.mk (hbox); have n2_ := gE hg HB; have n3_ := gE hg HB; clear HB; have HB := n0_; have B_0 := n1_; have W_0 := n2_; have G_0 := n3_; clear n0_ n1_ n2_ n3_; clear hb hbox hg; have z_3 := Y2 B_0.out; have f_3 := Y4 B_0.out) | ((with_reducible refine Ye (f := 93) rfl ?_); refine goesA (some 14) Tryz.func93 #[.int .i64 a0_4, .int .i64 a0_5] ?_; (with_reducible refine (dir_Check.calls a0_4 a0_5 t_0 _ A3.out).mono ?_); rintro e w' ⟨rfl, ⟨nd, rfl⟩⟩; refine ⟨_, rfl, ?_⟩))
   go_ret
   exact ⟨reT, hU HB.out⟩
 ·rw [if_neg c2] at H; have c2b0 := bqF c2; have c2b1 := bnT c2; by_cases c12 : a0_0 = 2
  ·rw [if_pos c12] at H; have c12b0 := bqT c12; have c12b1 := bnF c12; clear c12; by_cases c13 : a0_4 = 0
   ·rw [if_pos c13] at H; have c13b0 := bqT c13; have c13b1 := bnF c13; clear c13; by_cases c14 : a0_5 = 0
    ·rw [if_pos c14] at H; have c14b0 := bqT c14; have c14b1 := bnF c14; clear c14; by_cases c15 : a0_6 = 0
     ·rw [if_pos c15] at H; have c15b0 := bqT c15; have c15b1 := bnF c15; clear c15; obtain rfl := Option.some.inj H; go_enter Tryz.func74, Tryz.ntmps74
      go_wp2_with (first | ((with_reducible refine Yf (N := 1) rfl ?_); refine Yi ?hg (N := 1) ?hd (cs := #[.int .i64 a0_0, .int .i64 a0_1, .int .i64 a0_2, .int .i64 a0_3, .int .i64 a0_4, .int .i64 a0_5, .int .i64 a0_6]) (t := 42) ?hr ?_; (case hd => rfl); (case hg => rfl); (case hr => first | (go_simp; done) | (go_simp; rfl)); intro g_0 hg w16 hbox hb; have n0_ := Y0.mk (Y5 (hU HB.out) hb); have n1_ := Y0.mk (hbox); have n2_ := gE hg HB; have n3_ := gE hg HB; clear HB; have HB := n0_; have B_0 := n1_; have W_0 := n2_; have G_0 := n3_; clear n0_ n1_ n2_ n3_; clear hb hbox hg; have z_4 := Y2 B_0.out; have f_8 := Y4 B_0.out))
      go_ret
      exact ⟨reT, hU HB.out⟩
     ·rw [if_neg c15] at H; have c15b0 := bqF c15; have c15b1 := bnT c15; obtain rfl := Option.some.inj H; go_enter Tryz.func74, Tryz.ntmps74
      go_wp2_with (first | ((with_reducible refine Yf (N := 1) rfl ?_); refine Yi ?hg (N := 1) ?hd (cs := #[.int .i64 a0_0, .int .i64 a0_1, .int .i64 a0_2, .int .i64 a0_3, .int .i64 a0_4, .int .i64 a0_5, .int .i64 a0_6]) (t := 42) ?hr ?_; (case hd => rfl); (case hg => rfl); (case hr => first | (go_simp; done) | (go_simp; rfl)); intro g_0 hg w18 hbox hb; have n0_ := Y0.mk (Y5 (hU HB.out) hb); have n1_ := Y0.mk (hbox); have n2_ := gE hg HB; have n3_ := gE hg HB; clear HB; have HB := n0_; have B_0 := n1_; have W_0 := n2_; have G_0 := n3_; clear n0_ n1_ n2_ n3_; clear hb hbox hg; have z_8 := Y2 B_0.out; have f_0 := Y4 B_0.out))
      go_ret
      exact ⟨reT, hU HB.out⟩
    ·rw [if_neg c14] at H; have c14b0 := bqF c14; have c14b1 := bnT c14; obtain rfl := Option.some.inj H; go_enter Tryz.func74, Tryz.ntmps74
     go_wp2_with (first | ((with_reducible refine Yf (N := 1) rfl ?_); refine Yi ?hg (N := 1) ?hd (cs := #[.int .i64 a0_0, .int .i64 a0_1, .int .i64 a0_2, .int .i64 a0_3, .int .i64 a0_4, .int .i64 a0_5, .int .i64 a0_6]) (t := 42) ?hr ?_; (case hd => rfl); (case hg => rfl); (case hr => first | (go_simp; done) | (go_simp; rfl)); intro g_0 hg w20 hbox hb; have n0_ := Y0.mk (Y5 (hU HB.out) hb); have n1_ := Y0.mk (hbox); have n2_ := gE hg HB; have n3_ := gE hg HB; clear HB; have HB := n0_; have B_0 := n1_; have W_0 := n2_; have G_0 := n3_; clear n0_ n1_ n2_ n3_; clear hb hbox hg; have z_2 := Y2 B_0.out; have f_2 := Y4 B_0.out))
     go_ret
     exact ⟨reT, hU HB.out⟩
   ·rw [if_neg c13] at H; have c13b0 := bqF c13; have c13b1 := bnT c13; obtain rfl := Option.some.inj H; go_enter Tryz.func74, Tryz.ntmps74
    go_wp2_with (first | ((with_reducible refine Yf (N := 1) rfl ?_); refine Yi ?hg (N := 1) ?hd (cs := #[.int .i64 a0_0, .int .i64 a0_1, .int .i64 a0_2, .int .i64 a0_3, .int .i64 a0_4, .int .i64 a0_5, .int .i64 a0_6]) (t := 42) ?hr ?_; (case hd => rfl); (case hg => rfl); (case hr => first | (go_simp; done) | (go_simp; rfl)); intro g_0 hg w22 hbox hb; have n0_ := Y0.mk (Y5 (hU HB.out) hb); have n1_ := Y0.mk (hbox); have n2_ := gE hg HB; have n3_ := gE hg HB; clear HB; have HB := n0_; have B_0 := n1_; have W_0 := n2_; have G_0 := n3_; clear n0_ n1_ n2_ n3_; clear hb hbox hg; have z_a := Y2 B_0.out; have f_6 := Y4 B_0.out))
    go_ret
    exact ⟨reT, hU HB.out⟩
  ·rw [if_neg c12] at H; have c12b0 := bqF c12; have c12b1 := bnT c12; by_cases c24 : a0_0 = 3
   ·rw [if_pos c24] at H; have c24b0 := bqT c24; have c24b1 := bnF c24; clear c24; obtain ⟨⟨t_4, t_3, t_2, t_1⟩, A250, H⟩ := bS H; replace H : (some t_1) = some r := H; have A25 := Y0.mk A250; clear A250; obtain rfl := Option.some.inj H; go_enter Tryz.func74, Tryz.ntmps74
    go_wp2_with (first | ((with_reducible refine Yf (N := 1) rfl ?_); refine Yi ?hg (N := 1) ?hd (cs := #[.int .i64 a0_0, .int .i64 a0_1, .int .i64 a0_2, .int .i64 a0_3, .int .i64 a0_4, .int .i64 a0_5, .int .i64 a0_6]) (t := 42) ?hr ?_; (case hd => rfl); (case hg => rfl); (case hr => first | (go_simp; done) | (go_simp; rfl)); intro g_0 hg w26 hbox hb; have n0_ := Y0.mk (Y5 (hU HB.out) hb); have n1_ := Y0.mk (hbox); have n2_ := gE hg HB; have n3_ := gE hg HB; clear HB; have HB := n0_; have B_0 := n1_; have W_0 := n2_; have G_0 := n3_; clear n0_ n1_ n2_ n3_; clear hb hbox hg; have z_5 := Y2 B_0.out; have f_a := Y4 B_0.out) | ((with_reducible refine Ye (f := 94) rfl ?_); refine goesA (some 49) Tryz.func94 #[.int .i64 (wrap64 (a0_1 - 2)), .agg #[.int .i64 a0_4, .int .i64 a0_5, .int .i64 a0_6]] ?_; (with_reducible refine (aim_Of.calls (wrap64 (a0_1 - 2)) a0_4 a0_5 a0_6 t_4 t_3 t_2 t_1 _ A25.out).mono ?_); rintro e w28 ⟨rfl, hb⟩; refine ⟨_, rfl, ?_⟩; replace B_0 := Y0.mk (Y3 (bU B_0.out) hb); replace HB := Y0.mk (Y5 (hU HB.out) hb); (try clear hb)) | ((with_reducible refine Yf (N := 4) rfl ?_); refine Yi ?hg (N := 4) ?hd (cs := #[.int .i64 0, .int .i64 0, .int .i64 0]) (t := 109) ?hr ?_; (case hd => rfl); (case hg => rfl); (case hr => first | (go_simp; done) | (go_simp; rfl)); intro g_1 hg w29 hbox hb; have n0_ := Y0.mk (Y3 (bU B_0.out) hb); have n1_ := Y0.mk (Y5 (hU HB.out) hb); have n2_ := Y0.mk (hbox); have n3_ := gE hg HB; have n4_ := gE hg HB; have n5_ := gL hg B_0; have n6_ := gG hg B_0; clear B_0; clear HB; have B_0 := n0_; have HB := n1_; have B_1 := n2_; have W_1 := n3_; have G_1 := n4_; have N_0 := n5_; have N_1 := n6_; clear n0_ n1_ n2_ n3_ n4_ n5_ n6_; clear hb hbox hg; have hnb30 := N_1.out; have hnc30 := N_0.out; have z_0 := Y2 B_1.out; have f_9 := Y4 B_1.out))
    go_ret
    exact ⟨reT, hU HB.out⟩
   ·rw [if_neg c24] at H; have c24b0 := bqF c24; have c24b1 := bnT c24; by_cases c32 : a0_0 = 4
    ·rw [if_pos c32] at H; have c32b0 := bqT c32; have c32b1 := bnF c32; clear c32; have HC33 := Y0.mk H; clear H; go_enter Tryz.func74, Tryz.ntmps74
     go_upto_region 15 with (first | ((with_reducible refine Yf (N := 1) rfl ?_); refine Yi ?hg (N := 1) ?hd (cs := #[.int .i64 a0_0, .int .i64 a0_1, .int .i64 a0_2, .int .i64 a0_3, .int .i64 a0_4, .int .i64 a0_5, .int .i64 a0_6]) (t := 42) ?hr ?_; (case hd => rfl); (case hg => rfl); (case hr => first | (go_simp; done) | (go_simp; rfl)); intro g_0 hg w34 hbox hb; have n0_ := Y0.mk (Y5 (hU HB.out) hb); have n1_ := Y0.mk (hbox); have n2_ := gE hg HB; have n3_ := gE hg HB; clear HB; have HB := n0_; have B_0 := n1_; have W_0 := n2_; have G_0 := n3_; clear n0_ n1_ n2_ n3_; clear hb hbox hg; have z_6 := Y2 B_0.out; have f_4 := Y4 B_0.out))
     (try simp only [Act.put, List.setIfInBounds_toArray, List.set_cons_zero, List.set_cons_succ]); go_cut [62] (fun v62 wc => ∃ (kq : Nat) (x62_32 : Bool), v62 = .bool x62_32 ∧ Y0 (YO.j0 kq x62_32 a0_0 a0_1 a0_2 a0_3 a0_4 a0_5 a0_6 = some r) ∧ Y0 (kq ≤ k) ∧ Y0 (wc.heap[g_0]? = some (.cells #[.int .i64 a0_0, .int .i64 a0_1, .int .i64 a0_2, .int .i64 a0_3, .int .i64 a0_4, .int .i64 a0_5, .int .i64 a0_6] 42 (0, 0))) ∧ Y0 (Below w.heap.size w wc))
     case first =>
      have H := HC33.out; clear HC33; by_cases c36 : a0_4 = 0
      ·rw [if_pos c36] at H; have c36b0 := bqT c36; have c36b1 := bnF c36; clear c36; (first | rw [c36b0] | (simp only [i64_w, i32_w]; rw [c36b0]) | skip); have H' := Y0.mk H; clear H; have z_7 := Y2 B_0.out; have f_5 := Y4 B_0.out; go_wp2
       go_meet
       case rel => exact ⟨_, ((a0_5 != 0)), reS, H', ⟨by first | omega | exact Nat.le_refl _⟩, ⟨kB B_0⟩, ⟨hU HB.out⟩⟩
      ·rw [if_neg c36] at H; have c36b0 := bqF c36; have c36b1 := bnT c36; (first | rw [c36b0] | (simp only [i64_w, i32_w]; rw [c36b0]) | skip); have H' := Y0.mk H; clear H; have z_9 := Y2 B_0.out; have f_b := Y4 B_0.out; go_wp2
       go_meet
       case rel => exact ⟨_, (true), reS, H', ⟨by first | omega | exact Nat.le_refl _⟩, ⟨kB B_0⟩, ⟨hU HB.out⟩⟩
     case rest =>
      clear HC33; (try clear c2); (try clear c2b0); (try clear c2b1); (try clear c4); (try clear c4b0); (try clear c4b1); (try clear c5); (try clear c5b0); (try clear c5b1); (try clear c12); (try clear c12b0); (try clear c12b1); (try clear c13); (try clear c13b0); (try clear c13b1); (try clear c14); (try clear c14b0); (try clear c14b1); (try clear c15); (try clear c15b0); (try clear c15b1); (try clear c24); (try clear c24b0); (try clear c24b1); (try clear c32); (try clear c32b0); (try clear c32b1); (try clear c36); (try clear c36b0); (try clear c36b1); (try clear z_3); (try clear z_4); (try clear z_8); (try clear z_2); (try clear z_a); (try clear z_5); (try clear z_0); (try clear z_6); (try clear z_7); (try clear z_9); (try clear z_1); (try clear z_b); (try clear f_3); (try clear f_8); (try clear f_0); (try clear f_2); (try clear f_6); (try clear f_a); (try clear f_9); (try clear f_4); (try clear f_5); (try clear f_b); (try clear f_7); (try clear f_1); obtain ⟨kq, x62_32, rfl, HA, HJ32, B_0, HB⟩ := hcut; cases kq with
      | zero => exact absurd HA.out (by simp [YO.j0])
      | succ kj32 =>
       have H := HA.out; clear HA; simp only [YO.j0] at H; by_cases c39 : x62_32 = true
       ·subst c39; have H1 : (some 2) = some r := by rw [if_pos rfl] at H; exact H
        clear H; have H := H1; clear H1; obtain rfl := Option.some.inj H; go_wp2
        go_ret
        exact ⟨reT, hU HB.out⟩
       ·replace c39 := Bool.eq_false_iff.mpr c39; subst c39; have H1 : (if a0_6 < (-16) then (some 1) else (if a0_6 > 16 then (some 1) else (if a0_6 = 0 then (some 1) else (some 0)))) = some r := by rw [if_neg (show ¬ (false = true) by decide)] at H; exact H
        clear H; have H := H1; clear H1; by_cases c40 : a0_6 < (-16)
        ·rw [if_pos c40] at H; have c40b0 := decide_eq_true c40; clear c40; obtain rfl := Option.some.inj H; have z_26 := Y2 B_0.out; have f_2b := Y4 B_0.out; go_wp2
         go_ret
         exact ⟨reT, hU HB.out⟩
        ·rw [if_neg c40] at H; have c40b0 := decide_eq_false c40; clear c40; by_cases c42 : a0_6 > 16
         ·rw [if_pos c42] at H; have c42b0 := decide_eq_true c42; clear c42; obtain rfl := Option.some.inj H; have z_1p := Y2 B_0.out; have f_1a := Y4 B_0.out; go_wp2
          go_ret
          exact ⟨reT, hU HB.out⟩
         ·rw [if_neg c42] at H; have c42b0 := decide_eq_false c42; clear c42; by_cases c44 : a0_6 = 0
          ·rw [if_pos c44] at H; have c44b0 := bqT c44; have c44b1 := bnF c44; clear c44; obtain rfl := Option.some.inj H; have z_13 := Y2 B_0.out; have f_l := Y4 B_0.out; go_wp2
           go_ret
           exact ⟨reT, hU HB.out⟩
          ·rw [if_neg c44] at H; have c44b0 := bqF c44; have c44b1 := bnT c44; obtain rfl := Option.some.inj H; have z_l := Y2 B_0.out; have f_1p := Y4 B_0.out; go_wp2
           go_ret
           exact ⟨reT, hU HB.out⟩
    ·rw [if_neg c32] at H; have c32b0 := bqF c32; have c32b1 := bnT c32; obtain rfl := Option.some.inj H; go_enter Tryz.func74, Tryz.ntmps74
     go_wp2_with (first | ((with_reducible refine Yf (N := 1) rfl ?_); refine Yi ?hg (N := 1) ?hd (cs := #[.int .i64 a0_0, .int .i64 a0_1, .int .i64 a0_2, .int .i64 a0_3, .int .i64 a0_4, .int .i64 a0_5, .int .i64 a0_6]) (t := 42) ?hr ?_; (case hd => rfl); (case hg => rfl); (case hr => first | (go_simp; done) | (go_simp; rfl)); intro g_0 hg w47 hbox hb; have n0_ := Y0.mk (Y5 (hU HB.out) hb); have n1_ := Y0.mk (hbox); have n2_ := gE hg HB; have n3_ := gE hg HB; clear HB; have HB := n0_; have B_0 := n1_; have W_0 := n2_; have G_0 := n3_; clear n0_ n1_ n2_ n3_; clear hb hbox hg; have z_1s := Y2 B_0.out; have f_p := Y4 B_0.out))
     go_ret
     exact ⟨reT, hU HB.out⟩
def YB.j0 : Nat → Bool → Int → Int → Int → Int → Int → Int → Int → Option (Int)
 | 0, _, _, _, _, _, _, _, _ => none
 | k + 1, x3, x_3, x_6, x_0, x_1, x_4, x_2, x_5 => if x3 = true then (some 9) else ((Y1r.f x_3 x_6 x_0 x_1 x_4 x_2 x_5).bind fun t_1 => (if t_1 = true then (if x_0 < 0 then (some 1) else (if x_0 ≥ 8192 then (some 1) else (if x_1 < 1 then (some 1) else (if x_1 > (wrap64 (8192 - x_0)) then (some 1) else ((YO.f k x_3 x_6 x_0 x_1 x_4 x_2 x_5).bind fun t_0 => (some t_0)))))) else (some 16)))
def YB.f (k : Nat) (a0_0 : Int) (a0_1 : Int) (a0_2 : Int) (a0_3 : Int) (a0_4 : Int) (a0_5 : Int) (a0_6 : Int) : Option (Int) := if a0_0 < 1 then (YB.j0 k true a0_0 a0_1 a0_2 a0_3 a0_4 a0_5 a0_6) else (YB.j0 k (decide (a0_0 > 4)) a0_0 a0_1 a0_2 a0_3 a0_4 a0_5 a0_6)
theorem YB.mono_l : ∀ k, (∀ y0 y1 y2 y3 y4 y5 y6 y7, LeO (YB.j0 k y0 y1 y2 y3 y4 y5 y6 y7) (YB.j0 (k + 1) y0 y1 y2 y3 y4 y5 y6 y7))
 | 0 => fun _ _ _ _ _ _ _ _ r h => by simp [YB.j0] at h
 | k + 1 => by
  have ih0 := YB.mono_l k
  ·intro y0 y1 y2 y3 y4 y5 y6 y7; unfold YB.j0
   repeat' first
   | (with_reducible exact ih0 _ _ _ _ _ _ _ _)
   | (with_reducible exact YO.mono _ _ _ _ _ _ _ _)
   | (with_reducible exact LeO.refl _)
   | (with_reducible exact LeO.none _)
   | (with_reducible refine LeO.ite ?_ ?_)
   | (with_reducible refine LeO.bind ?_ (fun _ => ?_))
theorem YB.mono : ∀ a0 a1 a2 a3 a4 a5 a6 k, LeO (YB.f k a0 a1 a2 a3 a4 a5 a6) (YB.f (k + 1) a0 a1 a2 a3 a4 a5 a6) := by
 intro a0 a1 a2 a3 a4 a5 a6 k; have ih0 := YB.mono_l k; unfold YB.f
 repeat' first
   | (with_reducible exact ih0 _ _ _ _ _ _ _ _)
   | (with_reducible exact YO.mono _ _ _ _ _ _ _ _)
   | (with_reducible exact LeO.refl _)
   | (with_reducible exact LeO.none _)
   | (with_reducible refine LeO.ite ?_ ?_)
   | (with_reducible refine LeO.bind ?_ (fun _ => ?_))
set_option maxHeartbeats 8000000 in
set_option maxRecDepth 100000 in
theorem YB.calls (k : Nat) (a0_0 : Int) (a0_1 : Int) (a0_2 : Int) (a0_3 : Int) (a0_4 : Int) (a0_5 : Int) (a0_6 : Int) (r : Int) (w : World) (h : YB.f k a0_0 a0_1 a0_2 a0_3 a0_4 a0_5 a0_6 = some r) :
  Calls Tryz.prog 54 #[.agg #[.int .i64 a0_0, .int .i64 a0_1, .int .i64 a0_2, .int .i64 a0_3, .int .i64 a0_4, .int .i64 a0_5, .int .i64 a0_6]] w fun e w' => e = .returned (.int .i64 r) ∧ Below w.heap.size w w' := by
 have hu42 := Tryz.underlying42; have HB := Y0.mk (Below.refl w.heap.size w); have H : (if a0_0 < 1 then (YB.j0 k true a0_0 a0_1 a0_2 a0_3 a0_4 a0_5 a0_6) else (YB.j0 k (decide (a0_0 > 4)) a0_0 a0_1 a0_2 a0_3 a0_4 a0_5 a0_6)) = some r := h; clear h; have HC2 := Y0.mk H; clear H; go_enter Tryz.func54, Tryz.ntmps54
 go_upto_region 1 with (first | ((with_reducible refine Yf (N := 1) rfl ?_); refine Yi ?hg (N := 1) ?hd (cs := #[.int .i64 a0_0, .int .i64 a0_1, .int .i64 a0_2, .int .i64 a0_3, .int .i64 a0_4, .int .i64 a0_5, .int .i64 a0_6]) (t := 42) ?hr ?_; (case hd => rfl); (case hg => rfl); (case hr => first | (go_simp; done) | (go_simp; rfl)); intro g_0 hg w3 hbox hb; have n0_ := Y0.mk (Y5 (hU HB.out) hb); have n1_ := Y0.mk (hbox); have n2_ := gE hg HB; have n3_ := gE hg HB; clear HB; have HB := n0_; have B_0 := n1_; have W_0 := n2_; have G_0 := n3_; clear n0_ n1_ n2_ n3_; clear hb hbox hg))
 (try simp only [Act.put, List.setIfInBounds_toArray, List.set_cons_zero, List.set_cons_succ]); go_cut [3] (fun v3 wc => ∃ (kq : Nat) (x3_1 : Bool), v3 = .bool x3_1 ∧ Y0 (YB.j0 kq x3_1 a0_0 a0_1 a0_2 a0_3 a0_4 a0_5 a0_6 = some r) ∧ Y0 (kq ≤ k) ∧ Y0 (wc.heap[g_0]? = some (.cells #[.int .i64 a0_0, .int .i64 a0_1, .int .i64 a0_2, .int .i64 a0_3, .int .i64 a0_4, .int .i64 a0_5, .int .i64 a0_6] 42 (0, 0))) ∧ Y0 (Below w.heap.size w wc))
 case first =>
  have H := HC2.out; clear HC2; by_cases c4 : a0_0 < 1
  ·rw [if_pos c4] at H; have c4b0 := decide_eq_true c4; clear c4; (first | rw [c4b0] | (simp only [i64_w, i32_w]; rw [c4b0]) | skip); have H' := Y0.mk H; clear H; have z_0 := Y2 B_0.out; have f_0 := Y4 B_0.out; go_wp2
   go_meet
   case rel => exact ⟨_, (true), reS, H', ⟨by first | omega | exact Nat.le_refl _⟩, ⟨kB B_0⟩, ⟨hU HB.out⟩⟩
  ·rw [if_neg c4] at H; have c4b0 := decide_eq_false c4; clear c4; (first | rw [c4b0] | (simp only [i64_w, i32_w]; rw [c4b0]) | skip); have H' := Y0.mk H; clear H; have z_1 := Y2 B_0.out; have f_1 := Y4 B_0.out; go_wp2
   go_meet
   case rel => exact ⟨_, (decide (a0_0 > 4)), reS, H', ⟨by first | omega | exact Nat.le_refl _⟩, ⟨kB B_0⟩, ⟨hU HB.out⟩⟩
 case rest =>
  clear HC2; (try clear c4); (try clear c4b0); (try clear z_0); (try clear z_1); (try clear f_0); (try clear f_1); obtain ⟨kq, x3_1, rfl, HA, HJ1, B_0, HB⟩ := hcut; cases kq with
  | zero => exact absurd HA.out (by simp [YB.j0])
  | succ kj1 =>
   have H := HA.out; clear HA; simp only [YB.j0] at H; by_cases c7 : x3_1 = true
   ·subst c7; have H1 : (some 9) = some r := by rw [if_pos rfl] at H; exact H
    clear H; have H := H1; clear H1; obtain rfl := Option.some.inj H; go_wp2
    go_ret
    exact ⟨reT, hU HB.out⟩
   ·replace c7 := Bool.eq_false_iff.mpr c7; subst c7; rw [if_neg (show ¬ (false = true) by decide)] at H; obtain ⟨t_1, A80, H⟩ := bS H; try dsimp only at H
    have A8 := Y0.mk A80; clear A80; by_cases c9 : t_1 = true
    ·subst c9; rw [if_pos rfl] at H; by_cases c10 : a0_2 < 0
     ·rw [if_pos c10] at H; have c10b0 := decide_eq_true c10; clear c10; obtain rfl := Option.some.inj H; have z_a := Y2 B_0.out; have f_e := Y4 B_0.out; go_wp2_with (first | ((with_reducible refine Ye (f := 73) rfl ?_); refine goesA (some 14) Tryz.func73 #[.agg #[.int .i64 a0_0, .int .i64 a0_1, .int .i64 a0_2, .int .i64 a0_3, .int .i64 a0_4, .int .i64 a0_5, .int .i64 a0_6]] ?_; (with_reducible refine (Y1r.calls a0_0 a0_1 a0_2 a0_3 a0_4 a0_5 a0_6 true _ A8.out).mono ?_); rintro e w12 ⟨rfl, hb⟩; refine ⟨_, rfl, ?_⟩; replace B_0 := Y0.mk (Y3 (bU B_0.out) hb); replace HB := Y0.mk (Y5 (hU HB.out) hb); (try clear hb); have z_d := Y2 B_0.out; have f_l := Y4 B_0.out))
      go_ret
      exact ⟨reT, hU HB.out⟩
     ·rw [if_neg c10] at H; have c10b0 := decide_eq_false c10; clear c10; by_cases c14 : a0_2 ≥ 8192
      ·rw [if_pos c14] at H; have c14b0 := decide_eq_true c14; clear c14; obtain rfl := Option.some.inj H; have z_n := Y2 B_0.out; have f_g := Y4 B_0.out; go_wp2_with (first | ((with_reducible refine Ye (f := 73) rfl ?_); refine goesA (some 14) Tryz.func73 #[.agg #[.int .i64 a0_0, .int .i64 a0_1, .int .i64 a0_2, .int .i64 a0_3, .int .i64 a0_4, .int .i64 a0_5, .int .i64 a0_6]] ?_; (with_reducible refine (Y1r.calls a0_0 a0_1 a0_2 a0_3 a0_4 a0_5 a0_6 true _ A8.out).mono ?_); rintro e w16 ⟨rfl, hb⟩; refine ⟨_, rfl, ?_⟩; replace B_0 := Y0.mk (Y3 (bU B_0.out) hb); replace HB := Y0.mk (Y5 (hU HB.out) hb); (try clear hb); have z_g := Y2 B_0.out; have f_6 := Y4 B_0.out))
       go_ret
       exact ⟨reT, hU HB.out⟩
      ·rw [if_neg c14] at H; have c14b0 := decide_eq_false c14; clear c14; by_cases c18 : a0_3 < 1
       ·rw [if_pos c18] at H; have c18b0 := decide_eq_true c18; clear c18; obtain rfl := Option.some.inj H; have z_m := Y2 B_0.out; have f_3 := Y4 B_0.out; go_wp2_with (first | ((with_reducible refine Ye (f := 73) rfl ?_); refine goesA (some 14) Tryz.func73 #[.agg #[.int .i64 a0_0, .int .i64 a0_1, .int .i64 a0_2, .int .i64 a0_3, .int .i64 a0_4, .int .i64 a0_5, .int .i64 a0_6]] ?_; (with_reducible refine (Y1r.calls a0_0 a0_1 a0_2 a0_3 a0_4 a0_5 a0_6 true _ A8.out).mono ?_); rintro e w20 ⟨rfl, hb⟩; refine ⟨_, rfl, ?_⟩; replace B_0 := Y0.mk (Y3 (bU B_0.out) hb); replace HB := Y0.mk (Y5 (hU HB.out) hb); (try clear hb); have z_7 := Y2 B_0.out; have f_c := Y4 B_0.out))
        go_ret
        exact ⟨reT, hU HB.out⟩
       ·rw [if_neg c18] at H; have c18b0 := decide_eq_false c18; clear c18; by_cases c22 : a0_3 > (wrap64 (8192 - a0_2))
        ·rw [if_pos c22] at H; have c22b0 := decide_eq_true c22; clear c22; obtain rfl := Option.some.inj H; have z_i := Y2 B_0.out; have f_o := Y4 B_0.out; go_wp2_with (first | ((with_reducible refine Ye (f := 73) rfl ?_); refine goesA (some 14) Tryz.func73 #[.agg #[.int .i64 a0_0, .int .i64 a0_1, .int .i64 a0_2, .int .i64 a0_3, .int .i64 a0_4, .int .i64 a0_5, .int .i64 a0_6]] ?_; (with_reducible refine (Y1r.calls a0_0 a0_1 a0_2 a0_3 a0_4 a0_5 a0_6 true _ A8.out).mono ?_); rintro e w24 ⟨rfl, hb⟩; refine ⟨_, rfl, ?_⟩; replace B_0 := Y0.mk (Y3 (bU B_0.out) hb); replace HB := Y0.mk (Y5 (hU HB.out) hb); (try clear hb); have z_c := Y2 B_0.out; have f_n := Y4 B_0.out))
         go_ret
         exact ⟨reT, hU HB.out⟩
        ·rw [if_neg c22] at H; have c22b0 := decide_eq_false c22; clear c22; obtain ⟨t_0, A260, H⟩ := bS H; replace H : (some t_0) = some r := H; have A26 := Y0.mk A260; clear A260; obtain rfl := Option.some.inj H; have z_4 := Y2 B_0.out; have f_2 := Y4 B_0.out; go_wp2_with (first | ((with_reducible refine Ye (f := 73) rfl ?_); refine goesA (some 14) Tryz.func73 #[.agg #[.int .i64 a0_0, .int .i64 a0_1, .int .i64 a0_2, .int .i64 a0_3, .int .i64 a0_4, .int .i64 a0_5, .int .i64 a0_6]] ?_; (with_reducible refine (Y1r.calls a0_0 a0_1 a0_2 a0_3 a0_4 a0_5 a0_6 true _ A8.out).mono ?_); rintro e w28 ⟨rfl, hb⟩; refine ⟨_, rfl, ?_⟩; replace B_0 := Y0.mk (Y3 (bU B_0.out) hb); replace HB := Y0.mk (Y5 (hU HB.out) hb); (try clear hb); have z_5 := Y2 B_0.out; have f_j := Y4 B_0.out) | ((with_reducible refine Ye (f := 74) rfl ?_); refine goesA (some 39) Tryz.func74 #[.agg #[.int .i64 a0_0, .int .i64 a0_1, .int .i64 a0_2, .int .i64 a0_3, .int .i64 a0_4, .int .i64 a0_5, .int .i64 a0_6]] ?_; (with_reducible refine (YO.calls kj1 a0_0 a0_1 a0_2 a0_3 a0_4 a0_5 a0_6 t_0 _ A26.out).mono ?_); rintro e w30 ⟨rfl, hb⟩; refine ⟨_, rfl, ?_⟩; replace B_0 := Y0.mk (Y3 (bU B_0.out) hb); replace HB := Y0.mk (Y5 (hU HB.out) hb); (try clear hb)))
         go_ret
         exact ⟨reT, hU HB.out⟩
    ·replace c9 := Bool.eq_false_iff.mpr c9; subst c9; have H1 : (some 16) = some r := by rw [if_neg (show ¬ (false = true) by decide)] at H; exact H
     clear H; have H := H1; clear H1; obtain rfl := Option.some.inj H; have z_9 := Y2 B_0.out; have f_7 := Y4 B_0.out; go_wp2_with (first | ((with_reducible refine Ye (f := 73) rfl ?_); refine goesA (some 14) Tryz.func73 #[.agg #[.int .i64 a0_0, .int .i64 a0_1, .int .i64 a0_2, .int .i64 a0_3, .int .i64 a0_4, .int .i64 a0_5, .int .i64 a0_6]] ?_; (with_reducible refine (Y1r.calls a0_0 a0_1 a0_2 a0_3 a0_4 a0_5 a0_6 false _ A8.out).mono ?_); rintro e w32 ⟨rfl, hb⟩; refine ⟨_, rfl, ?_⟩; replace B_0 := Y0.mk (Y3 (bU B_0.out) hb); replace HB := Y0.mk (Y5 (hU HB.out) hb); (try clear hb)))
     go_ret
     exact ⟨reT, hU HB.out⟩
end Go.Proofs.YteopkkoblbmggaaGreat.P
end

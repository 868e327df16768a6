/- Texts of this claim in one: VP23, VP24, VROf, VP25, VP26; no condition. -/
import Derived.Test.YteopkkoblbmggaaGreatQZAC
import Derived.Test.YteopkkoblbmggaaGreatQZAE
import Derived.Test.YteopkkoblbmggaaGreatQZAG
import Derived.Deep.Light
import Derived.Test.YteopkkoblbmggaaGreatQZAF
section
namespace Go.Proofs.YteopkkoblbmggaaGreat.P
open Go.RowKit Go.Proofs.YteopkkoblbmggaaGreatW.PrintWords Go.Proofs.YteopkkoblbmggaaGreatW.PrintLast Go.Proofs.YteopkkoblbmggaaGreatW.PrintMore
attribute [local go_sem] YW YY Y19 Y1a YM YN YX YZ
set_option linter.unusedVariables false
set_option linter.unusedSimpArgs false
def YE.f (a0_0 : Int) (a0_1 : Int) (a1_0 : Int) (a1_1 : Int) : Option (Bool) := if a0_0 = a1_0 then (some (decide (a0_1 < a1_1))) else (some (decide (a0_0 < a1_0)))
set_option maxHeartbeats 8000000 in
set_option maxRecDepth 100000 in
theorem YE.calls (a0_0 : Int) (a0_1 : Int) (a1_0 : Int) (a1_1 : Int) (r : Bool) (w : World) (h : YE.f a0_0 a0_1 a1_0 a1_1 = some r) :
  Calls Tryz.prog 43 #[.agg #[.int .i64 a0_0, .int .i64 a0_1], .agg #[.int .i64 a1_0, .int .i64 a1_1]] w fun e w' => e = .returned (.bool r) ∧ Below w.heap.size w w' := by
 have hu46 := Tryz.underlying46; have HB := Y0.mk (Below.refl w.heap.size w); have H : (if a0_0 = a1_0 then (some (decide (a0_1 < a1_1))) else (some (decide (a0_0 < a1_0)))) = some r := h; clear h; by_cases c3 : a0_0 = a1_0
 ·rw [if_pos c3] at H; have c3b0 := bqT c3; have c3b1 := bnF c3; clear c3; obtain rfl := Option.some.inj H; go_enter Tryz.func43, Tryz.ntmps43
  go_wp2_with (first | ((with_reducible refine Yf (N := 2) rfl ?_); refine Yi ?hg (N := 2) ?hd (cs := #[.int .i64 a0_0, .int .i64 a0_1]) (t := 46) ?hr ?_; (case hd => rfl); (case hg => rfl); (case hr => first | (go_simp; done) | (go_simp; rfl)); intro g_1 hg w4 hbox hb; have n0_ := Y0.mk (Y5 (hU HB.out) hb); have n1_ := Y0.mk (hbox); have n2_ := gE hg HB; have n3_ := gE hg HB; clear HB; have HB := n0_; have B_0 := n1_; have W_2 := n2_; have G_1 := n3_; clear n0_ n1_ n2_ n3_; clear hb hbox hg) | ((with_reducible refine Yf (N := 3) rfl ?_); refine Yi ?hg (N := 3) ?hd (cs := #[.int .i64 a1_0, .int .i64 a1_1]) (t := 46) ?hr ?_; (case hd => rfl); (case hg => rfl); (case hr => first | (go_simp; done) | (go_simp; rfl)); intro g_2 hg w5 hbox hb; have n0_ := Y0.mk (Y3 (bU B_0.out) hb); have n1_ := Y0.mk (Y5 (hU HB.out) hb); have n2_ := Y0.mk (hbox); have n3_ := gE hg HB; have n4_ := gE hg HB; have n5_ := gL hg B_0; have n6_ := gG hg B_0; clear B_0; clear HB; have B_0 := n0_; have HB := n1_; have B_2 := n2_; have W_1 := n3_; have G_2 := n4_; have N_0 := n5_; have N_1 := n6_; clear n0_ n1_ n2_ n3_ n4_ n5_ n6_; clear hb hbox hg; have hnb6 := N_0.out; have hnc6 := N_1.out; have z_3 := Y2 B_0.out; have f_5 := Y4 B_0.out; have z_0 := Y2 B_2.out; have f_0 := Y4 B_2.out))
  go_ret
  exact ⟨reT, hU HB.out⟩
 ·rw [if_neg c3] at H; have c3b0 := bqF c3; have c3b1 := bnT c3; obtain rfl := Option.some.inj H; go_enter Tryz.func43, Tryz.ntmps43
  go_wp2_with (first | ((with_reducible refine Yf (N := 2) rfl ?_); refine Yi ?hg (N := 2) ?hd (cs := #[.int .i64 a0_0, .int .i64 a0_1]) (t := 46) ?hr ?_; (case hd => rfl); (case hg => rfl); (case hr => first | (go_simp; done) | (go_simp; rfl)); intro g_1 hg w9 hbox hb; have n0_ := Y0.mk (Y5 (hU HB.out) hb); have n1_ := Y0.mk (hbox); have n2_ := gE hg HB; have n3_ := gE hg HB; clear HB; have HB := n0_; have B_0 := n1_; have W_2 := n2_; have G_1 := n3_; clear n0_ n1_ n2_ n3_; clear hb hbox hg) | ((with_reducible refine Yf (N := 3) rfl ?_); refine Yi ?hg (N := 3) ?hd (cs := #[.int .i64 a1_0, .int .i64 a1_1]) (t := 46) ?hr ?_; (case hd => rfl); (case hg => rfl); (case hr => first | (go_simp; done) | (go_simp; rfl)); intro g_2 hg w10 hbox hb; have n0_ := Y0.mk (Y3 (bU B_0.out) hb); have n1_ := Y0.mk (Y5 (hU HB.out) hb); have n2_ := Y0.mk (hbox); have n3_ := gE hg HB; have n4_ := gE hg HB; have n5_ := gL hg B_0; have n6_ := gG hg B_0; clear B_0; clear HB; have B_0 := n0_; have HB := n1_; have B_2 := n2_; have W_1 := n3_; have G_2 := n4_; have N_0 := n5_; have N_1 := n6_; clear n0_ n1_ n2_ n3_ n4_ n5_ n6_; clear hb hbox hg; have hnb11 := N_0.out; have hnc11 := N_1.out; have z_1 := Y2 B_0.out; have f_1 := Y4 B_0.out; have z_4 := Y2 B_2.out; have f_3 := Y4 B_2.out))
  go_ret
  exact ⟨reT, hU HB.out⟩
def YF.f (a0_0 : Int) (a0_1 : Int) : Option (Bool) := if a0_0 ≥ 1 then (if a0_0 ≤ 1000000 then (if a0_1 ≥ 1 then (some (decide (a0_1 ≤ 64))) else (some false)) else (some false)) else (some false)
set_option maxHeartbeats 8000000 in
set_option maxRecDepth 100000 in
theorem YF.calls (a0_0 : Int) (a0_1 : Int) (r : Bool) (w : World) (h : YF.f a0_0 a0_1 = some r) :
  Calls Tryz.prog 57 #[.agg #[.int .i64 a0_0, .int .i64 a0_1]] w fun e w' => e = .returned (.bool r) ∧ Below w.heap.size w w' := by
 have hu46 := Tryz.underlying46; have HB := Y0.mk (Below.refl w.heap.size w); have H : (if a0_0 ≥ 1 then (if a0_0 ≤ 1000000 then (if a0_1 ≥ 1 then (some (decide (a0_1 ≤ 64))) else (some false)) else (some false)) else (some false)) = some r := h; clear h; by_cases c2 : a0_0 ≥ 1
 ·rw [if_pos c2] at H; have c2b0 := decide_eq_true c2; clear c2; by_cases c3 : a0_0 ≤ 1000000
  ·rw [if_pos c3] at H; have c3b0 := decide_eq_true c3; clear c3; by_cases c4 : a0_1 ≥ 1
   ·rw [if_pos c4] at H; have c4b0 := decide_eq_true c4; clear c4; obtain rfl := Option.some.inj H; go_enter Tryz.func57, Tryz.ntmps57
    go_wp2_with (first | ((with_reducible refine Yf (N := 1) rfl ?_); refine Yi ?hg (N := 1) ?hd (cs := #[.int .i64 a0_0, .int .i64 a0_1]) (t := 46) ?hr ?_; (case hd => rfl); (case hg => rfl); (case hr => first | (go_simp; done) | (go_simp; rfl)); intro g_0 hg w5 hbox hb; have n0_ := Y0.mk (Y5 (hU HB.out) hb); have n1_ := Y0.mk (hbox); have n2_ := gE hg HB; have n3_ := gE hg HB; clear HB; have HB := n0_; have B_1 := n1_; have W_0 := n2_; have G_0 := n3_; clear n0_ n1_ n2_ n3_; clear hb hbox hg; have z_5 := Y2 B_1.out; have f_4 := Y4 B_1.out))
    go_ret
    exact ⟨reT, hU HB.out⟩
   ·rw [if_neg c4] at H; have c4b0 := decide_eq_false c4; clear c4; obtain rfl := Option.some.inj H; go_enter Tryz.func57, Tryz.ntmps57
    go_wp2_with (first | ((with_reducible refine Yf (N := 1) rfl ?_); refine Yi ?hg (N := 1) ?hd (cs := #[.int .i64 a0_0, .int .i64 a0_1]) (t := 46) ?hr ?_; (case hd => rfl); (case hg => rfl); (case hr => first | (go_simp; done) | (go_simp; rfl)); intro g_0 hg w7 hbox hb; have n0_ := Y0.mk (Y5 (hU HB.out) hb); have n1_ := Y0.mk (hbox); have n2_ := gE hg HB; have n3_ := gE hg HB; clear HB; have HB := n0_; have B_1 := n1_; have W_0 := n2_; have G_0 := n3_; clear n0_ n1_ n2_ n3_; clear hb hbox hg; have z_0 := Y2 B_1.out; have f_0 := Y4 B_1.out))
    go_ret
    exact ⟨reT, hU HB.out⟩
  ·rw [if_neg c3] at H; have c3b0 := decide_eq_false c3; clear c3; obtain rfl := Option.some.inj H; go_enter Tryz.func57, Tryz.ntmps57
   go_wp2_with (first | ((with_reducible refine Yf (N := 1) rfl ?_); refine Yi ?hg (N := 1) ?hd (cs := #[.int .i64 a0_0, .int .i64 a0_1]) (t := 46) ?hr ?_; (case hd => rfl); (case hg => rfl); (case hr => first | (go_simp; done) | (go_simp; rfl)); intro g_0 hg w9 hbox hb; have n0_ := Y0.mk (Y5 (hU HB.out) hb); have n1_ := Y0.mk (hbox); have n2_ := gE hg HB; have n3_ := gE hg HB; clear HB; have HB := n0_; have B_1 := n1_; have W_0 := n2_; have G_0 := n3_; clear n0_ n1_ n2_ n3_; clear hb hbox hg; have z_2 := Y2 B_1.out; have f_2 := Y4 B_1.out))
   go_ret
   exact ⟨reT, hU HB.out⟩
 ·rw [if_neg c2] at H; have c2b0 := decide_eq_false c2; clear c2; obtain rfl := Option.some.inj H; go_enter Tryz.func57, Tryz.ntmps57
  go_wp2_with (first | ((with_reducible refine Yf (N := 1) rfl ?_); refine Yi ?hg (N := 1) ?hd (cs := #[.int .i64 a0_0, .int .i64 a0_1]) (t := 46) ?hr ?_; (case hd => rfl); (case hg => rfl); (case hr => first | (go_simp; done) | (go_simp; rfl)); intro g_0 hg w11 hbox hb; have n0_ := Y0.mk (Y5 (hU HB.out) hb); have n1_ := Y0.mk (hbox); have n2_ := gE hg HB; have n3_ := gE hg HB; clear HB; have HB := n0_; have B_1 := n1_; have W_0 := n2_; have G_0 := n3_; clear n0_ n1_ n2_ n3_; clear hb hbox hg; have z_1 := Y2 B_1.out; have f_1 := Y4 B_1.out))
  go_ret
  exact ⟨reT, hU HB.out⟩
def Yo.j0 : Nat → Int → Int → Bool → Option (Bool)
 | 0, _, _, _ => none
 | k + 1, x0, x1, x10 => if x10 = true then (if x1 = 0 then (some true) else (some (x1 == 1))) else (if x0 = 3 then (if x1 ≥ 2 then (some (decide (x1 < 8))) else (some false)) else (some (x1 == 8)))
def Yo.f (k : Nat) (a0 : Int) (a1 : Int) : Option (Bool) := if a0 = 1 then (Yo.j0 k a0 a1 true) else (Yo.j0 k a0 a1 (a0 == 2))
theorem Yo.mono_l : ∀ k, (∀ y0 y1 y2, LeO (Yo.j0 k y0 y1 y2) (Yo.j0 (k + 1) y0 y1 y2))
 | 0 => fun _ _ _ r h => by simp [Yo.j0] at h
 | k + 1 => by
  have ih0 := Yo.mono_l k
  ·intro y0 y1 y2; unfold Yo.j0
   repeat' first
   | (with_reducible exact ih0 _ _ _)
   | (with_reducible exact LeO.refl _)
   | (with_reducible exact LeO.none _)
   | (with_reducible refine LeO.ite ?_ ?_)
   | (with_reducible refine LeO.bind ?_ (fun _ => ?_))
theorem Yo.mono : ∀ a0 a1 k, LeO (Yo.f k a0 a1) (Yo.f (k + 1) a0 a1) := by
 intro a0 a1 k; have ih0 := Yo.mono_l k; unfold Yo.f
 repeat' first
   | (with_reducible exact ih0 _ _ _)
   | (with_reducible exact LeO.refl _)
   | (with_reducible exact LeO.none _)
   | (with_reducible refine LeO.ite ?_ ?_)
   | (with_reducible refine LeO.bind ?_ (fun _ => ?_))
set_option maxHeartbeats 8000000 in
set_option maxRecDepth 100000 in
theorem Yo.calls (k : Nat) (a0 : Int) (a1 : Int) (r : Bool) (w : World) (h : Yo.f k a0 a1 = some r) :
  Calls Tryz.prog 76 #[.int .i64 a0, .int .i64 a1] w fun e w' => e = .returned (.bool r) ∧ Drawn0 w w' := by
 have H : (if a0 = 1 then (Yo.j0 k a0 a1 true) else (Yo.j0 k a0 a1 (a0 == 2))) = some r := h; clear h; have HC3 := Y0.mk H; clear H; go_enter Tryz.func76, Tryz.ntmps76
 go_upto_region 1 with (fail)
 go_cut [10] (fun v10 wc => ∃ (kq : Nat) (x10_2 : Bool), v10 = .bool x10_2 ∧ Y0 (Yo.j0 kq a0 a1 x10_2 = some r) ∧ Y0 (kq ≤ k) ∧ Drawn0 w wc)
 case first =>
  have H := HC3.out; clear HC3; by_cases c4 : a0 = 1
  ·rw [if_pos c4] at H; have c4b0 := bqT c4; have c4b1 := bnF c4; clear c4; (first | rw [c4b0] | (simp only [i64_w, i32_w]; rw [c4b0]) | skip); have H' := Y0.mk H; clear H; go_wp2
   go_meet
   case rel => exact ⟨_, (true), reS, H', ⟨by first | omega | exact Nat.le_refl _⟩, dS⟩
  ·rw [if_neg c4] at H; have c4b0 := bqF c4; have c4b1 := bnT c4; (first | rw [c4b0] | (simp only [i64_w, i32_w]; rw [c4b0]) | skip); have H' := Y0.mk H; clear H; go_wp2
   go_meet
   case rel => exact ⟨_, ((a0 == 2)), reS, H', ⟨by first | omega | exact Nat.le_refl _⟩, dS⟩
 case rest =>
  clear HC3; (try clear c4); (try clear c4b0); (try clear c4b1); obtain ⟨kq, x10_2, rfl, HA, HJ2, ⟨mc2, rfl⟩⟩ := hcut; cases kq with
  | zero => exact absurd HA.out (by simp [Yo.j0])
  | succ kj2 =>
   have H := HA.out; clear HA; simp only [Yo.j0] at H; by_cases c5 : x10_2 = true
   ·subst c5; have H1 : (if a1 = 0 then (some true) else (some (a1 == 1))) = some r := by rw [if_pos rfl] at H; exact H
    clear H; have H := H1; clear H1; by_cases c6 : a1 = 0
    ·rw [if_pos c6] at H; have c6b0 := bqT c6; have c6b1 := bnF c6; clear c6; obtain rfl := Option.some.inj H; go_wp2
     go_ret
     exact ⟨reS, dS⟩
    ·rw [if_neg c6] at H; have c6b0 := bqF c6; have c6b1 := bnT c6; obtain rfl := Option.some.inj H; go_wp2
     go_ret
     exact ⟨reS, dS⟩
   ·replace c5 := Bool.eq_false_iff.mpr c5; subst c5; have H1 : (if a0 = 3 then (if a1 ≥ 2 then (some (decide (a1 < 8))) else (some false)) else (some (a1 == 8))) = some r := by rw [if_neg (show ¬ (false = true) by decide)] at H; exact H
    clear H; have H := H1; clear H1; by_cases c7 : a0 = 3
    ·rw [if_pos c7] at H; have c7b0 := bqT c7; have c7b1 := bnF c7; clear c7; by_cases c8 : a1 ≥ 2
     ·rw [if_pos c8] at H; have c8b0 := decide_eq_true c8; clear c8; obtain rfl := Option.some.inj H; go_wp2
      go_ret
      exact ⟨reS, dS⟩
     ·rw [if_neg c8] at H; have c8b0 := decide_eq_false c8; clear c8; obtain rfl := Option.some.inj H; go_wp2
      go_ret
      exact ⟨reS, dS⟩
    ·rw [if_neg c7] at H; have c7b0 := bqF c7; have c7b1 := bnT c7; obtain rfl := Option.some.inj H; go_wp2
     go_ret
     exact ⟨reS, dS⟩
def YI.f (a0 : Int) : Option (Bool) := if a0 ≥ 0 then (some (decide (a0 ≤ 8))) else (some false)
set_option maxHeartbeats 8000000 in
set_option maxRecDepth 100000 in
theorem YI.calls (a0 : Int) (r : Bool) (w : World) (h : YI.f a0 = some r) :
  Calls Tryz.prog 96 #[.int .i64 a0] w fun e w' => e = .returned (.bool r) ∧ Drawn0 w w' := by
 have H : (if a0 ≥ 0 then (some (decide (a0 ≤ 8))) else (some false)) = some r := h; clear h; by_cases c2 : a0 ≥ 0
 ·rw [if_pos c2] at H; have c2b0 := decide_eq_true c2; clear c2; obtain rfl := Option.some.inj H; go_enter Tryz.func96, Tryz.ntmps96
  go_wp2
  go_ret
  exact ⟨reS, dS⟩
 ·rw [if_neg c2] at H; have c2b0 := decide_eq_false c2; clear c2; obtain rfl := Option.some.inj H; go_enter Tryz.func96, Tryz.ntmps96
  go_wp2
  go_ret
  exact ⟨reS, dS⟩
def YR.f (a0 : Int) (a1 : Int) : Option (Int) := (YI.f a0).bind fun t_0 => (if t_0 = true then (if a1 < (-1) then (some 1) else (if a1 > 1 then (some 1) else (some 0))) else (some 1))
set_option maxHeartbeats 8000000 in
set_option maxRecDepth 100000 in
theorem YR.calls (a0 : Int) (a1 : Int) (r : Int) (w : World) (h : YR.f a0 a1 = some r) :
  Calls Tryz.prog 77 #[.int .i64 a0, .int .i64 a1] w fun e w' => e = .returned (.int .i64 r) ∧ Drawn0 w w' := by
 have H : ((YI.f a0).bind fun t_0 => (if t_0 = true then (if a1 < (-1) then (some 1) else (if a1 > 1 then (some 1) else (some 0))) else (some 1))) = some r := h; clear h; obtain ⟨t_0, A30, H⟩ := bS H; replace H : (if t_0 = true then (if a1 < (-1) then (some 1) else (if a1 > 1 then (some 1) else (some 0))) else (some 1)) = some r := H; have A3 := Y0.mk A30; clear A30; by_cases c4 : t_0 = true
 ·subst c4; have H1 : (if a1 < (-1) then (some 1) else (if a1 > 1 then (some 1) else (some 0))) = some r := by rw [if_pos rfl] at H; exact H
  clear H; have H := H1; clear H1; by_cases c5 : a1 < (-1)
  ·rw [if_pos c5] at H; have c5b0 := decide_eq_true c5; clear c5; obtain rfl := Option.some.inj H; go_enter Tryz.func77, Tryz.ntmps77
   go_wp2_with (first | ((with_reducible refine Ye (f := 96) rfl ?_); refine goesA (some 6) Tryz.func96 #[.int .i64 a0] ?_; (with_reducible refine (YI.calls a0 true _ A3.out).mono ?_); rintro e w' ⟨rfl, ⟨nd, rfl⟩⟩; refine ⟨_, rfl, ?_⟩))
   go_ret
   exact ⟨reS, dS⟩
  ·rw [if_neg c5] at H; have c5b0 := decide_eq_false c5; clear c5; by_cases c6 : a1 > 1
   ·rw [if_pos c6] at H; have c6b0 := decide_eq_true c6; clear c6; obtain rfl := Option.some.inj H; go_enter Tryz.func77, Tryz.ntmps77
    go_wp2_with (first | ((with_reducible refine Ye (f := 96) rfl ?_); refine goesA (some 6) Tryz.func96 #[.int .i64 a0] ?_; (with_reducible refine (YI.calls a0 true _ A3.out).mono ?_); rintro e w' ⟨rfl, ⟨nd, rfl⟩⟩; refine ⟨_, rfl, ?_⟩))
    go_ret
    exact ⟨reS, dS⟩
   ·rw [if_neg c6] at H; have c6b0 := decide_eq_false c6; clear c6; obtain rfl := Option.some.inj H; go_enter Tryz.func77, Tryz.ntmps77
    go_wp2_with (first | ((with_reducible refine Ye (f := 96) rfl ?_); refine goesA (some 6) Tryz.func96 #[.int .i64 a0] ?_; (with_reducible refine (YI.calls a0 true _ A3.out).mono ?_); rintro e w' ⟨rfl, ⟨nd, rfl⟩⟩; refine ⟨_, rfl, ?_⟩))
    go_ret
    exact ⟨reS, dS⟩
 ·replace c4 := Bool.eq_false_iff.mpr c4; subst c4; have H1 : (some 1) = some r := by rw [if_neg (show ¬ (false = true) by decide)] at H; exact H
  clear H; have H := H1; clear H1; obtain rfl := Option.some.inj H; go_enter Tryz.func77, Tryz.ntmps77
  go_wp2_with (first | ((with_reducible refine Ye (f := 96) rfl ?_); refine goesA (some 6) Tryz.func96 #[.int .i64 a0] ?_; (with_reducible refine (YI.calls a0 false _ A3.out).mono ?_); rintro e w' ⟨rfl, ⟨nd, rfl⟩⟩; refine ⟨_, rfl, ?_⟩))
  go_ret
  exact ⟨reS, dS⟩
def Y1n.f (a0 : Int) : Option (Bool) := if a0 ≥ 0 then (some (decide (a0 < 6))) else (some false)
set_option maxHeartbeats 8000000 in
set_option maxRecDepth 100000 in
theorem Y1n.calls (a0 : Int) (r : Bool) (w : World) (h : Y1n.f a0 = some r) :
  Calls Tryz.prog 97 #[.int .i64 a0] w fun e w' => e = .returned (.bool r) ∧ Drawn0 w w' := by
 have H : (if a0 ≥ 0 then (some (decide (a0 < 6))) else (some false)) = some r := h; clear h; by_cases c2 : a0 ≥ 0
 ·rw [if_pos c2] at H; have c2b0 := decide_eq_true c2; clear c2; obtain rfl := Option.some.inj H; go_enter Tryz.func97, Tryz.ntmps97
  go_wp2
  go_ret
  exact ⟨reS, dS⟩
 ·rw [if_neg c2] at H; have c2b0 := decide_eq_false c2; clear c2; obtain rfl := Option.some.inj H; go_enter Tryz.func97, Tryz.ntmps97
  go_wp2
  go_ret
  exact ⟨reS, dS⟩
def Y1m.f (a0 : Int) : Option (Int × Int) := (YI.f a0).bind fun t_0 => (if t_0 = true then (if a0 = 0 then (some (0, 18)) else (some (wrap64 (a0 - 1), 0))) else (some (0, 1)))
set_option maxHeartbeats 8000000 in
set_option maxRecDepth 100000 in
theorem Y1m.calls (a0 : Int) (r1 : Int) (r2 : Int) (w : World) (h : Y1m.f a0 = some (r1, r2)) :
  Calls Tryz.prog 98 #[.int .i64 a0] w fun e w' => e = .returned (.tuple #[.int .i64 r1, .int .i64 r2]) ∧ Drawn0 w w' := by
 have H : ((YI.f a0).bind fun t_0 => (if t_0 = true then (if a0 = 0 then (some (0, 18)) else (some (wrap64 (a0 - 1), 0))) else (some (0, 1)))) = some (r1, r2) := h; clear h; obtain ⟨t_0, A20, H⟩ := bS H; replace H : (if t_0 = true then (if a0 = 0 then (some (0, 18)) else (some (wrap64 (a0 - 1), 0))) else (some (0, 1))) = some (r1, r2) := H; have A2 := Y0.mk A20; clear A20; by_cases c3 : t_0 = true
 ·subst c3; have H1 : (if a0 = 0 then (some (0, 18)) else (some (wrap64 (a0 - 1), 0))) = some (r1, r2) := by rw [if_pos rfl] at H; exact H
  clear H; have H := H1; clear H1; by_cases c4 : a0 = 0
  ·rw [if_pos c4] at H; have c4b0 := bqT c4; have c4b1 := bnF c4; clear c4; simp only [Option.some.injEq, Prod.mk.injEq] at H; obtain ⟨rfl, rfl⟩ := H; go_enter Tryz.func98, Tryz.ntmps98
   go_wp2_with (first | ((with_reducible refine Ye (f := 96) rfl ?_); refine goesA (some 5) Tryz.func96 #[.int .i64 a0] ?_; (with_reducible refine (YI.calls a0 true _ A2.out).mono ?_); rintro e w' ⟨rfl, ⟨nd, rfl⟩⟩; refine ⟨_, rfl, ?_⟩))
   go_ret2
   exact ⟨reS, dS⟩
  ·rw [if_neg c4] at H; have c4b0 := bqF c4; have c4b1 := bnT c4; simp only [Option.some.injEq, Prod.mk.injEq] at H; obtain ⟨rfl, rfl⟩ := H; go_enter Tryz.func98, Tryz.ntmps98
   go_wp2_with (first | ((with_reducible refine Ye (f := 96) rfl ?_); refine goesA (some 5) Tryz.func96 #[.int .i64 a0] ?_; (with_reducible refine (YI.calls a0 true _ A2.out).mono ?_); rintro e w' ⟨rfl, ⟨nd, rfl⟩⟩; refine ⟨_, rfl, ?_⟩))
   go_ret2
   exact ⟨reS, dS⟩
 ·replace c3 := Bool.eq_false_iff.mpr c3; subst c3; have H1 : (some (0, 1)) = some (r1, r2) := by rw [if_neg (show ¬ (false = true) by decide)] at H; exact H
  clear H; have H := H1; clear H1; simp only [Option.some.injEq, Prod.mk.injEq] at H; obtain ⟨rfl, rfl⟩ := H; go_enter Tryz.func98, Tryz.ntmps98
  go_wp2_with (first | ((with_reducible refine Ye (f := 96) rfl ?_); refine goesA (some 5) Tryz.func96 #[.int .i64 a0] ?_; (with_reducible refine (YI.calls a0 false _ A2.out).mono ?_); rintro e w' ⟨rfl, ⟨nd, rfl⟩⟩; refine ⟨_, rfl, ?_⟩))
  go_ret2
  exact ⟨reS, dS⟩
end Go.Proofs.YteopkkoblbmggaaGreat.P
end
section
namespace Go.Proofs.YteopkkoblbmggaaGreat.P
open Go.RowKit Go.Proofs.YteopkkoblbmggaaGreatW.PrintWords Go.Proofs.YteopkkoblbmggaaGreatW.PrintLast Go.Proofs.YteopkkoblbmggaaGreatW.PrintMore
set_option linter.unusedVariables false
set_option linter.unusedSimpArgs false
def YS.f (a d l b : Int) : Option (Int × Int × Int × Int) := some (ofP a d l b)
theorem YS.known_eq (a : Int) : Y1n.f a = some (knB a) := by
  unfold Y1n.f knB; by_cases h : 0 ≤ a <;> simp [h]
theorem YS.dcheck_eq (d l : Int) : YR.f d l = some (if 0 ≤ d ∧ d ≤ 8 ∧ -1 ≤ l ∧ l ≤ 1 then 0 else 1) := by
  unfold YR.f YI.f
  repeat' split
  all_goals (simp at *; try omega)
theorem YS.eighth_eq (d : Int) (h : 0 ≤ d ∧ d ≤ 8) (h0 : d ≠ 0) : Y1m.f d = some (wrap64 (d - 1), 0) := by
  unfold Y1m.f YI.f
  simp [h.1, h.2, h0]
set_option maxHeartbeats 1000000 in
set_option maxRecDepth 100000 in
theorem YS.calls (a0 : Int) (a1_0 : Int) (a1_1 : Int) (a1_2 : Int) (r1 : Int) (r2 : Int) (r3 : Int) (r4 : Int) (w : World) (h : YS.f a0 a1_0 a1_1 a1_2 = some (r1, r2, r3, r4)) :
    Calls Tryz.prog 78 #[.int .i64 a0, .agg #[.int .i64 a1_0, .int .i64 a1_1, .int .i64 a1_2]] w fun e w' => e = .returned (.tuple #[.agg #[.int .i64 r1, .int .i64 r2, .int .i64 r3], .int .i64 r4]) ∧ Below w.heap.size w w' := by
  have hu44 := Tryz.underlying109; have hu32 := Tryz.underlying113; have H := Y0.mk (Option.some.inj h).symm; clear h; obtain ⟨c, hc⟩ : ∃ c : Int, c = if 0 ≤ a1_0 ∧ a1_0 ≤ 8 ∧ -1 ≤ a1_1 ∧ a1_1 ≤ 1 then 0 else 1 := ⟨_, rfl⟩
  have HC := Y0.mk hc; have HD := Y0.mk (hc ▸ YS.dcheck_eq a1_0 a1_1); clear hc; go_enter Tryz.func78, Tryz.ntmps78
  go_wp2_with (first | (go_at_call 97; refine (Y1n.calls _ (knB _) _ (YS.known_eq _)).mono ?_; rintro e w' ⟨rfl, ⟨nd, rfl⟩⟩) | (go_at_call 77; refine (YR.calls _ _ c _ HD.out).mono ?_; rintro e w' ⟨rfl, ⟨nd, rfl⟩⟩) | (go_at_call 98; refine (Y1m.calls _ (wrap64 (a1_0 - 1)) 0 _ (YS.eighth_eq _ (by have hc := HC.out; go_light; split at hc <;> simp_all) (by go_light; simp_all))).mono ?_; rintro e w' ⟨rfl, ⟨nd, rfl⟩⟩))
  all_goals (refine bodyPost_ret (by simp [results, Tryz.results78, go_sem]; rfl) rfl ⟨?_, by repeat (first | exact Below.refl _ _ | apply YA | apply Y1A | apply Yx | refine Y2d ?_ (by simp))⟩; go_light)
  all_goals
    have h := H.out; have hc := HC.out; clear H HC HD hu44 hu32; unfold ofP at h; unfold knB at *
    (repeat' split at h) <;> (repeat' split at hc) <;> first | (simp_all; done) | (simp_all [wrap64]; done) | (exfalso; simp_all; omega) | (exfalso; simp at *; omega)
end Go.Proofs.YteopkkoblbmggaaGreat.P
end
section
namespace Go.Proofs.YteopkkoblbmggaaGreat.P
open Go.RowKit Go.Proofs.YteopkkoblbmggaaGreatW.PrintWords Go.Proofs.YteopkkoblbmggaaGreatW.PrintLast Go.Proofs.YteopkkoblbmggaaGreatW.PrintMore
attribute [local go_sem] YW YY Y19 Y1a YM YN YX YZ
set_option linter.unusedVariables false
set_option linter.unusedSimpArgs false
mutual
def Yg.j0 : Nat → Bool → Int → Int → Int → Int → Int → Int → Int → Option (Int)
 | 0, _, _, _, _, _, _, _, _ => none
 | k + 1, x13, x_1, x_6, x_4, x_5, x_3, x_2, x_0 => if x13 = true then (some 9) else ((Yo.f k x_1 x_6).bind fun t_1 => (if t_1 = true then (if x_4 < 0 then (Yg.j1 k true x_1 x_6 x_4 x_5 x_3 x_2 x_0) else (if x_4 > 8191 then (Yg.j1 k true x_1 x_6 x_4 x_5 x_3 x_2 x_0) else (if x_5 < 1 then (Yg.j1 k true x_1 x_6 x_4 x_5 x_3 x_2 x_0) else (Yg.j1 k (decide (x_5 > (wrap64 (8192 - x_4)))) x_1 x_6 x_4 x_5 x_3 x_2 x_0)))) else (some 16)))
def Yg.j1 : Nat → Bool → Int → Int → Int → Int → Int → Int → Int → Option (Int)
 | 0, _, _, _, _, _, _, _, _ => none
 | k + 1, x40, x_1, x_6, x_4, x_5, x_3, x_2, x_0 => if x40 = true then (some 1) else (if x_1 = 1 then ((YR.f x_3 x_2).bind fun t_0 => (if t_0 = 0 then (if x_0 = 0 then (some 0) else (some 2)) else (some t_0))) else (if x_1 = 3 then ((YS.f (wrap64 (x_6 - 2)) x_3 x_2 x_0).bind fun b_0 => (some b_0.2.2.2)) else (if x_3 = 0 then (Yg.j2 k (x_2 != 0) x_1 x_6 x_4 x_5 x_3 x_2 x_0) else (Yg.j2 k true x_1 x_6 x_4 x_5 x_3 x_2 x_0))))
def Yg.j2 : Nat → Bool → Int → Int → Int → Int → Int → Int → Int → Option (Int)
 | 0, _, _, _, _, _, _, _, _ => none
 | k + 1, x80, x_1, x_6, x_4, x_5, x_3, x_2, x_0 => if x80 = true then (some 2) else (if x_1 = 2 then (if x_0 = 0 then (some 0) else (some 2)) else (if x_0 < (-16) then (some 1) else (if x_0 > 16 then (some 1) else (if x_0 = 0 then (some 1) else (some 0)))))
end
def Yg.f (k : Nat) (a0_0 : Int) (a0_1 : Int) (a0_2 : Int) (a0_3 : Int) (a0_4 : Int) (a0_5 : Int) (a0_6 : Int) : Option (Int) := if a0_0 < 1 then (Yg.j0 k true a0_0 a0_1 a0_2 a0_3 a0_4 a0_5 a0_6) else (Yg.j0 k (decide (a0_0 > 4)) a0_0 a0_1 a0_2 a0_3 a0_4 a0_5 a0_6)
theorem Yg.mono_l : ∀ k, (∀ y0 y1 y2 y3 y4 y5 y6 y7, LeO (Yg.j0 k y0 y1 y2 y3 y4 y5 y6 y7) (Yg.j0 (k + 1) y0 y1 y2 y3 y4 y5 y6 y7)) ∧ (∀ y0 y1 y2 y3 y4 y5 y6 y7, LeO (Yg.j1 k y0 y1 y2 y3 y4 y5 y6 y7) (Yg.j1 (k + 1) y0 y1 y2 y3 y4 y5 y6 y7)) ∧ (∀ y0 y1 y2 y3 y4 y5 y6 y7, LeO (Yg.j2 k y0 y1 y2 y3 y4 y5 y6 y7) (Yg.j2 (k + 1) y0 y1 y2 y3 y4 y5 y6 y7))
 | 0 => ⟨fun _ _ _ _ _ _ _ _ r h => by simp [Yg.j0] at h, fun _ _ _ _ _ _ _ _ r h => by simp [Yg.j1] at h, fun _ _ _ _ _ _ _ _ r h => by simp [Yg.j2] at h⟩
 | k + 1 => by
  obtain ⟨ih0, ih1, ih2⟩ := Yg.mono_l k; refine ⟨?_, ?_, ?_⟩
  ·intro y0 y1 y2 y3 y4 y5 y6 y7; unfold Yg.j0
   repeat' first
   | (with_reducible exact ih0 _ _ _ _ _ _ _ _)
   | (with_reducible exact ih1 _ _ _ _ _ _ _ _)
   | (with_reducible exact ih2 _ _ _ _ _ _ _ _)
   | (with_reducible exact Yo.mono _ _ _)
   | (with_reducible exact LeO.refl _)
   | (with_reducible exact LeO.none _)
   | (with_reducible refine LeO.ite ?_ ?_)
   | (with_reducible refine LeO.bind ?_ (fun _ => ?_))
  ·intro y0 y1 y2 y3 y4 y5 y6 y7; unfold Yg.j1
   repeat' first
   | (with_reducible exact ih0 _ _ _ _ _ _ _ _)
   | (with_reducible exact ih1 _ _ _ _ _ _ _ _)
   | (with_reducible exact ih2 _ _ _ _ _ _ _ _)
   | (with_reducible exact Yo.mono _ _ _)
   | (with_reducible exact LeO.refl _)
   | (with_reducible exact LeO.none _)
   | (with_reducible refine LeO.ite ?_ ?_)
   | (with_reducible refine LeO.bind ?_ (fun _ => ?_))
  ·intro y0 y1 y2 y3 y4 y5 y6 y7; unfold Yg.j2
   repeat' first
   | (with_reducible exact ih0 _ _ _ _ _ _ _ _)
   | (with_reducible exact ih1 _ _ _ _ _ _ _ _)
   | (with_reducible exact ih2 _ _ _ _ _ _ _ _)
   | (with_reducible exact Yo.mono _ _ _)
   | (with_reducible exact LeO.refl _)
   | (with_reducible exact LeO.none _)
   | (with_reducible refine LeO.ite ?_ ?_)
   | (with_reducible refine LeO.bind ?_ (fun _ => ?_))
theorem Yg.mono : ∀ a0 a1 a2 a3 a4 a5 a6 k, LeO (Yg.f k a0 a1 a2 a3 a4 a5 a6) (Yg.f (k + 1) a0 a1 a2 a3 a4 a5 a6) := by
 intro a0 a1 a2 a3 a4 a5 a6 k; obtain ⟨ih0, ih1, ih2⟩ := Yg.mono_l k; unfold Yg.f
 repeat' first
   | (with_reducible exact ih0 _ _ _ _ _ _ _ _)
   | (with_reducible exact ih1 _ _ _ _ _ _ _ _)
   | (with_reducible exact ih2 _ _ _ _ _ _ _ _)
   | (with_reducible exact Yo.mono _ _ _)
   | (with_reducible exact LeO.refl _)
   | (with_reducible exact LeO.none _)
   | (with_reducible refine LeO.ite ?_ ?_)
   | (with_reducible refine LeO.bind ?_ (fun _ => ?_))
set_option maxHeartbeats 8000000 in
set_option maxRecDepth 100000 in
theorem Yg.calls (k : Nat) (a0_0 : Int) (a0_1 : Int) (a0_2 : Int) (a0_3 : Int) (a0_4 : Int) (a0_5 : Int) (a0_6 : Int) (r : Int) (w : World) (h : Yg.f k a0_0 a0_1 a0_2 a0_3 a0_4 a0_5 a0_6 = some r) :
  Calls Tryz.prog 58 #[.agg #[.int .i64 a0_0, .int .i64 a0_1, .int .i64 a0_2, .int .i64 a0_3, .int .i64 a0_4, .int .i64 a0_5, .int .i64 a0_6]] w fun e w' => e = .returned (.int .i64 r) ∧ Below w.heap.size w w' := by
 have hu42 := Tryz.underlying42; have hu113 := Tryz.underlying113; have hu109 := Tryz.underlying109; have HB := Y0.mk (Below.refl w.heap.size w); have H : (if a0_0 < 1 then (Yg.j0 k true a0_0 a0_1 a0_2 a0_3 a0_4 a0_5 a0_6) else (Yg.j0 k (decide (a0_0 > 4)) a0_0 a0_1 a0_2 a0_3 a0_4 a0_5 a0_6)) = some r := h; clear h; have HC2 := Y0.mk H; clear H; go_enter Tryz.func58, Tryz.ntmps58
 go_upto_region 1 with (first | ((with_reducible refine Yf (N := 1) rfl ?_); refine Yi ?hg (N := 1) ?hd (cs := #[.int .i64 a0_0, .int .i64 a0_1, .int .i64 a0_2, .int .i64 a0_3, .int .i64 a0_4, .int .i64 a0_5, .int .i64 a0_6]) (t := 42) ?hr ?_; (case hd => rfl); (case hg => rfl); (case hr => first | (go_simp; done) | (go_simp; rfl)); intro g_0 hg w3 hbox hb; have n0_ := Y0.mk (Y5 (hU HB.out) hb); have n1_ := Y0.mk (hbox); have n2_ := gE hg HB; have n3_ := gE hg HB; clear HB; have HB := n0_; have B_0 := n1_; have W_1 := n2_; have G_1 := n3_; clear n0_ n1_ n2_ n3_; clear hb hbox hg))
 (try simp only [Act.put, List.setIfInBounds_toArray, List.set_cons_zero, List.set_cons_succ]); go_cut [13] (fun v13 wc => ∃ (kq : Nat) (x13_1 : Bool), v13 = .bool x13_1 ∧ Y0 (Yg.j0 kq x13_1 a0_0 a0_1 a0_2 a0_3 a0_4 a0_5 a0_6 = some r) ∧ Y0 (kq ≤ k) ∧ Y0 (wc.heap[g_0]? = some (.cells #[.int .i64 a0_0, .int .i64 a0_1, .int .i64 a0_2, .int .i64 a0_3, .int .i64 a0_4, .int .i64 a0_5, .int .i64 a0_6] 42 (0, 0))) ∧ Y0 (Below w.heap.size w wc))
 case first =>
  have H := HC2.out; clear HC2; by_cases c4 : a0_0 < 1
  ·rw [if_pos c4] at H; have c4b0 := decide_eq_true c4; clear c4; (first | rw [c4b0] | (simp only [i64_w, i32_w]; rw [c4b0]) | skip); have H' := Y0.mk H; clear H; have z_1 := Y2 B_0.out; have f_0 := Y4 B_0.out; go_wp2
   go_meet
   case rel => exact ⟨_, (true), reS, H', ⟨by first | omega | exact Nat.le_refl _⟩, ⟨kB B_0⟩, ⟨hU HB.out⟩⟩
  ·rw [if_neg c4] at H; have c4b0 := decide_eq_false c4; clear c4; (first | rw [c4b0] | (simp only [i64_w, i32_w]; rw [c4b0]) | skip); have H' := Y0.mk H; clear H; have z_0 := Y2 B_0.out; have f_1 := Y4 B_0.out; go_wp2
   go_meet
   case rel => exact ⟨_, (decide (a0_0 > 4)), reS, H', ⟨by first | omega | exact Nat.le_refl _⟩, ⟨kB B_0⟩, ⟨hU HB.out⟩⟩
 case rest =>
  clear HC2; (try clear c4); (try clear c4b0); (try clear z_1); (try clear z_0); (try clear f_0); (try clear f_1); obtain ⟨kq, x13_1, rfl, HA, HJ1, B_0, HB⟩ := hcut; cases kq with
  | zero => exact absurd HA.out (by simp [Yg.j0])
  | succ kj1 =>
   have H := HA.out; clear HA; simp only [Yg.j0] at H; by_cases c7 : x13_1 = true
   ·subst c7; have H1 : (some 9) = some r := by rw [if_pos rfl] at H; exact H
    clear H; have H := H1; clear H1; obtain rfl := Option.some.inj H; go_wp2
    go_ret
    exact ⟨reT, hU HB.out⟩
   ·replace c7 := Bool.eq_false_iff.mpr c7; subst c7; rw [if_neg (show ¬ (false = true) by decide)] at H; obtain ⟨t_1, A80, H⟩ := bS H; try dsimp only at H
    have A8 := Y0.mk A80; clear A80; by_cases c9 : t_1 = true
    ·subst c9; rw [if_pos rfl] at H; have HC10 := Y0.mk H; clear H; have z_6 := Y2 B_0.out; have f_3 := Y4 B_0.out; go_upto_region 5 with (first | ((with_reducible refine Ye (f := 76) rfl ?_); refine goesA (some 18) Tryz.func76 #[.int .i64 a0_0, .int .i64 a0_1] ?_; (with_reducible refine (Yo.calls kj1 a0_0 a0_1 true _ A8.out).mono ?_); rintro e w' ⟨rfl, ⟨nd, rfl⟩⟩; refine ⟨_, rfl, ?_⟩))
     (try simp only [Act.put, List.setIfInBounds_toArray, List.set_cons_zero, List.set_cons_succ]); go_cut [40] (fun v40 wc => ∃ (kq : Nat) (x40_9 : Bool), v40 = .bool x40_9 ∧ Y0 (Yg.j1 kq x40_9 a0_0 a0_1 a0_2 a0_3 a0_4 a0_5 a0_6 = some r) ∧ Y0 (kq ≤ kj1) ∧ Y0 (wc.heap[g_0]? = some (.cells #[.int .i64 a0_0, .int .i64 a0_1, .int .i64 a0_2, .int .i64 a0_3, .int .i64 a0_4, .int .i64 a0_5, .int .i64 a0_6] 42 (0, 0))) ∧ Y0 (Below w.heap.size w wc))
     case first =>
      have H := HC10.out; clear HC10; by_cases c12 : a0_2 < 0
      ·rw [if_pos c12] at H; have c12b0 := decide_eq_true c12; clear c12; (first | rw [c12b0] | (simp only [i64_w, i32_w]; rw [c12b0]) | skip); have H' := Y0.mk H; clear H; have z_4 := Y2 B_0.out; have f_d := Y4 B_0.out; go_wp2
       go_meet
       case rel => exact ⟨_, (true), reS, H', ⟨by have := HJ1.out; first | omega | exact Nat.le_refl _⟩, ⟨kB B_0⟩, ⟨hU HB.out⟩⟩
      ·rw [if_neg c12] at H; have c12b0 := decide_eq_false c12; clear c12; (first | rw [c12b0] | (simp only [i64_w, i32_w]; rw [c12b0]) | skip); by_cases c14 : a0_2 > 8191
       ·rw [if_pos c14] at H; have c14b0 := decide_eq_true c14; clear c14; have H' := Y0.mk H; clear H; have z_9 := Y2 B_0.out; have f_i := Y4 B_0.out; go_wp2
        go_meet
        case rel => exact ⟨_, (true), reS, H', ⟨by have := HJ1.out; first | omega | exact Nat.le_refl _⟩, ⟨kB B_0⟩, ⟨hU HB.out⟩⟩
       ·rw [if_neg c14] at H; have c14b0 := decide_eq_false c14; clear c14; by_cases c16 : a0_3 < 1
        ·rw [if_pos c16] at H; have c16b0 := decide_eq_true c16; clear c16; have H' := Y0.mk H; clear H; have z_7 := Y2 B_0.out; have f_7 := Y4 B_0.out; go_wp2
         go_meet
         case rel => exact ⟨_, (true), reS, H', ⟨by have := HJ1.out; first | omega | exact Nat.le_refl _⟩, ⟨kB B_0⟩, ⟨hU HB.out⟩⟩
        ·rw [if_neg c16] at H; have c16b0 := decide_eq_false c16; clear c16; have H' := Y0.mk H; clear H; have z_3 := Y2 B_0.out; have f_e := Y4 B_0.out; go_wp2
         go_meet
         case rel => exact ⟨_, (decide (a0_3 > (wrap64 (8192 - a0_2)))), reS, H', ⟨by have := HJ1.out; first | omega | exact Nat.le_refl _⟩, ⟨kB B_0⟩, ⟨hU HB.out⟩⟩
     case rest =>
      clear HC10; (try clear c4); (try clear c4b0); (try clear c7); (try clear c9); (try clear c12); (try clear c12b0); (try clear c14); (try clear c14b0); (try clear c16); (try clear c16b0); (try clear z_6); (try clear z_4); (try clear z_9); (try clear z_7); (try clear z_3); (try clear z_1); (try clear z_0); (try clear f_3); (try clear f_d); (try clear f_i); (try clear f_7); (try clear f_e); (try clear f_0); (try clear f_1); obtain ⟨kq, x40_9, rfl, HA, HJ9, B_0, HB⟩ := hcut; cases kq with
      | zero => exact absurd HA.out (by simp [Yg.j1])
      | succ kj9 =>
       have H := HA.out; clear HA; simp only [Yg.j1] at H; by_cases c19 : x40_9 = true
       ·subst c19; have H1 : (some 1) = some r := by rw [if_pos rfl] at H; exact H
        clear H; have H := H1; clear H1; obtain rfl := Option.some.inj H; go_wp2
        go_ret
        exact ⟨reT, hU HB.out⟩
       ·replace c19 := Bool.eq_false_iff.mpr c19; subst c19; rw [if_neg (show ¬ (false = true) by decide)] at H; by_cases c20 : a0_0 = 1
        ·rw [if_pos c20] at H; have c20b0 := bqT c20; have c20b1 := bnF c20; clear c20; obtain ⟨t_0, A210, H⟩ := bS H; replace H : (if t_0 = 0 then (if a0_6 = 0 then (some 0) else (some 2)) else (some t_0)) = some r := H; have A21 := Y0.mk A210; clear A210; by_cases c22 : t_0 = 0
         ·rw [if_pos c22] at H; have c22b0 := bqT c22; have c22b1 := bnF c22; clear c22; by_cases c23 : a0_6 = 0
          ·rw [if_pos c23] at H; have c23b0 := bqT c23; have c23b1 := bnF c23; clear c23; obtain rfl := Option.some.inj H; have z_11 := Y2 B_0.out; have f_l := Y4 B_0.out; go_wp2_with (first | ((with_reducible refine Ye (f := 77) rfl ?_); refine goesA (some 48) Tryz.func77 #[.int .i64 a0_4, .int .i64 a0_5] ?_; (with_reducible refine (YR.calls a0_4 a0_5 t_0 _ A21.out).mono ?_); rintro e w' ⟨rfl, ⟨nd, rfl⟩⟩; refine ⟨_, rfl, ?_⟩))
           go_ret
           exact ⟨reT, hU HB.out⟩
          ·rw [if_neg c23] at H; have c23b0 := bqF c23; have c23b1 := bnT c23; obtain rfl := Option.some.inj H; have z_1i := Y2 B_0.out; have f_t := Y4 B_0.out; go_wp2_with (first | ((with_reducible refine Ye (f := 77) rfl ?_); refine goesA (some 48) Tryz.func77 #[.int .i64 a0_4, .int .i64 a0_5] ?_; (with_reducible refine (YR.calls a0_4 a0_5 t_0 _ A21.out).mono ?_); rintro e w' ⟨rfl, ⟨nd, rfl⟩⟩; refine ⟨_, rfl, ?_⟩))
           go_ret
           exact ⟨reT, hU HB.out⟩
         ·rw [if_neg c22] at H; have c22b0 := bqF c22; have c22b1 := bnT c22; obtain rfl := Option.some.inj H; have z_q := Y2 B_0.out; have f_16 := Y4 B_0.out; go_wp2_with (first | ((with_reducible refine Ye (f := 77) rfl ?_); refine goesA (some 48) Tryz.func77 #[.int .i64 a0_4, .int .i64 a0_5] ?_; (with_reducible refine (YR.calls a0_4 a0_5 t_0 _ A21.out).mono ?_); rintro e w' ⟨rfl, ⟨nd, rfl⟩⟩; refine ⟨_, rfl, ?_⟩))
          go_ret
          exact ⟨reT, hU HB.out⟩
        ·rw [if_neg c20] at H; have c20b0 := bqF c20; have c20b1 := bnT c20; by_cases c27 : a0_0 = 3
         ·rw [if_pos c27] at H; have c27b0 := bqT c27; have c27b1 := bnF c27; clear c27; obtain ⟨⟨t_3, t_5, t_4, t_2⟩, A280, H⟩ := bS H; replace H : (some t_2) = some r := H; have A28 := Y0.mk A280; clear A280; obtain rfl := Option.some.inj H; have z_10 := Y2 B_0.out; have f_z := Y4 B_0.out; go_wp2_with (first | ((with_reducible refine Ye (f := 78) rfl ?_); refine goesA (some 69) Tryz.func78 #[.int .i64 (wrap64 (a0_1 - 2)), .agg #[.int .i64 a0_4, .int .i64 a0_5, .int .i64 a0_6]] ?_; (with_reducible refine (YS.calls (wrap64 (a0_1 - 2)) a0_4 a0_5 a0_6 t_3 t_5 t_4 t_2 _ A28.out).mono ?_); rintro e w30 ⟨rfl, hb⟩; refine ⟨_, rfl, ?_⟩; replace B_0 := Y0.mk (Y3 (bU B_0.out) hb); replace HB := Y0.mk (Y5 (hU HB.out) hb); (try clear hb)) | ((with_reducible refine Yf (N := 4) rfl ?_); refine Yi ?hg (N := 4) ?hd (cs := #[.int .i64 0, .int .i64 0, .int .i64 0]) (t := 109) ?hr ?_; (case hd => rfl); (case hg => rfl); (case hr => first | (go_simp; done) | (go_simp; rfl)); intro g_1 hg w31 hbox hb; have n0_ := Y0.mk (Y3 (bU B_0.out) hb); have n1_ := Y0.mk (Y5 (hU HB.out) hb); have n2_ := Y0.mk (hbox); have n3_ := gE hg HB; have n4_ := gE hg HB; have n5_ := gL hg B_0; have n6_ := gG hg B_0; clear B_0; clear HB; have B_0 := n0_; have HB := n1_; have B_1 := n2_; have W_0 := n3_; have G_0 := n4_; have N_0 := n5_; have N_1 := n6_; clear n0_ n1_ n2_ n3_ n4_ n5_ n6_; clear hb hbox hg; have hnb32 := N_1.out; have hnc32 := N_0.out; have z_18 := Y2 B_1.out; have f_1f := Y4 B_1.out))
          go_ret
          exact ⟨reT, hU HB.out⟩
         ·rw [if_neg c27] at H; have c27b0 := bqF c27; have c27b1 := bnT c27; have HC34 := Y0.mk H; clear H; have z_14 := Y2 B_0.out; have f_r := Y4 B_0.out; go_upto_region 17 with (fail)
          go_cut [80] (fun v80 wc => ∃ (kq : Nat) (x80_33 : Bool), v80 = .bool x80_33 ∧ Y0 (Yg.j2 kq x80_33 a0_0 a0_1 a0_2 a0_3 a0_4 a0_5 a0_6 = some r) ∧ Y0 (kq ≤ kj9) ∧ Y0 (wc.heap[g_0]? = some (.cells #[.int .i64 a0_0, .int .i64 a0_1, .int .i64 a0_2, .int .i64 a0_3, .int .i64 a0_4, .int .i64 a0_5, .int .i64 a0_6] 42 (0, 0))) ∧ Y0 (Below w.heap.size w wc))
          case first =>
           have H := HC34.out; clear HC34; by_cases c36 : a0_4 = 0
           ·rw [if_pos c36] at H; have c36b0 := bqT c36; have c36b1 := bnF c36; clear c36; (first | rw [c36b0] | (simp only [i64_w, i32_w]; rw [c36b0]) | skip); have H' := Y0.mk H; clear H; have z_15 := Y2 B_0.out; have f_s := Y4 B_0.out; go_wp2
            go_meet
            case rel => exact ⟨_, ((a0_5 != 0)), reS, H', ⟨by have := HJ1.out; have := HJ9.out; first | omega | exact Nat.le_refl _⟩, ⟨kB B_0⟩, ⟨hU HB.out⟩⟩
           ·rw [if_neg c36] at H; have c36b0 := bqF c36; have c36b1 := bnT c36; (first | rw [c36b0] | (simp only [i64_w, i32_w]; rw [c36b0]) | skip); have H' := Y0.mk H; clear H; have z_1g := Y2 B_0.out; have f_1e := Y4 B_0.out; go_wp2
            go_meet
            case rel => exact ⟨_, (true), reS, H', ⟨by have := HJ1.out; have := HJ9.out; first | omega | exact Nat.le_refl _⟩, ⟨kB B_0⟩, ⟨hU HB.out⟩⟩
          case rest =>
           clear HC34; (try clear c4); (try clear c4b0); (try clear c7); (try clear c9); (try clear c12); (try clear c12b0); (try clear c14); (try clear c14b0); (try clear c16); (try clear c16b0); (try clear c19); (try clear c20); (try clear c20b0); (try clear c20b1); (try clear c22); (try clear c22b0); (try clear c22b1); (try clear c23); (try clear c23b0); (try clear c23b1); (try clear c27); (try clear c27b0); (try clear c27b1); (try clear c36); (try clear c36b0); (try clear c36b1); (try clear z_6); (try clear z_4); (try clear z_9); (try clear z_7); (try clear z_3); (try clear z_11); (try clear z_1i); (try clear z_q); (try clear z_10); (try clear z_18); (try clear z_14); (try clear z_15); (try clear z_1g); (try clear z_1); (try clear z_0); (try clear f_3); (try clear f_d); (try clear f_i); (try clear f_7); (try clear f_e); (try clear f_l); (try clear f_t); (try clear f_16); (try clear f_z); (try clear f_1f); (try clear f_r); (try clear f_s); (try clear f_1e); (try clear f_0); (try clear f_1); obtain ⟨kq, x80_33, rfl, HA, HJ33, B_0, HB⟩ := hcut; cases kq with
           | zero => exact absurd HA.out (by simp [Yg.j2])
           | succ kj33 =>
            have H := HA.out; clear HA; simp only [Yg.j2] at H; by_cases c39 : x80_33 = true
            ·subst c39; have H1 : (some 2) = some r := by rw [if_pos rfl] at H; exact H
             clear H; have H := H1; clear H1; obtain rfl := Option.some.inj H; go_wp2
             go_ret
             exact ⟨reT, hU HB.out⟩
            ·replace c39 := Bool.eq_false_iff.mpr c39; subst c39; rw [if_neg (show ¬ (false = true) by decide)] at H; by_cases c40 : a0_0 = 2
             ·rw [if_pos c40] at H; have c40b0 := bqT c40; have c40b1 := bnF c40; clear c40; by_cases c41 : a0_6 = 0
              ·rw [if_pos c41] at H; have c41b0 := bqT c41; have c41b1 := bnF c41; clear c41; obtain rfl := Option.some.inj H; have z_2q := Y2 B_0.out; have f_1m := Y4 B_0.out; go_wp2
               go_ret
               exact ⟨reT, hU HB.out⟩
              ·rw [if_neg c41] at H; have c41b0 := bqF c41; have c41b1 := bnT c41; obtain rfl := Option.some.inj H; have z_2j := Y2 B_0.out; have f_2f := Y4 B_0.out; go_wp2
               go_ret
               exact ⟨reT, hU HB.out⟩
             ·rw [if_neg c40] at H; have c40b0 := bqF c40; have c40b1 := bnT c40; by_cases c44 : a0_6 < (-16)
              ·rw [if_pos c44] at H; have c44b0 := decide_eq_true c44; clear c44; obtain rfl := Option.some.inj H; have z_22 := Y2 B_0.out; have f_1v := Y4 B_0.out; go_wp2
               go_ret
               exact ⟨reT, hU HB.out⟩
              ·rw [if_neg c44] at H; have c44b0 := decide_eq_false c44; clear c44; by_cases c46 : a0_6 > 16
               ·rw [if_pos c46] at H; have c46b0 := decide_eq_true c46; clear c46; obtain rfl := Option.some.inj H; have z_2e := Y2 B_0.out; have f_24 := Y4 B_0.out; go_wp2
                go_ret
                exact ⟨reT, hU HB.out⟩
               ·rw [if_neg c46] at H; have c46b0 := decide_eq_false c46; clear c46; by_cases c48 : a0_6 = 0
                ·rw [if_pos c48] at H; have c48b0 := bqT c48; have c48b1 := bnF c48; clear c48; obtain rfl := Option.some.inj H; have z_2l := Y2 B_0.out; have f_1p := Y4 B_0.out; go_wp2
                 go_ret
                 exact ⟨reT, hU HB.out⟩
                ·rw [if_neg c48] at H; have c48b0 := bqF c48; have c48b1 := bnT c48; obtain rfl := Option.some.inj H; have z_2o := Y2 B_0.out; have f_2q := Y4 B_0.out; go_wp2
                 go_ret
                 exact ⟨reT, hU HB.out⟩
    ·replace c9 := Bool.eq_false_iff.mpr c9; subst c9; have H1 : (some 16) = some r := by rw [if_neg (show ¬ (false = true) by decide)] at H; exact H
     clear H; have H := H1; clear H1; obtain rfl := Option.some.inj H; have z_2i := Y2 B_0.out; have f_1y := Y4 B_0.out; go_wp2_with (first | ((with_reducible refine Ye (f := 76) rfl ?_); refine goesA (some 18) Tryz.func76 #[.int .i64 a0_0, .int .i64 a0_1] ?_; (with_reducible refine (Yo.calls kj1 a0_0 a0_1 false _ A8.out).mono ?_); rintro e w' ⟨rfl, ⟨nd, rfl⟩⟩; refine ⟨_, rfl, ?_⟩))
     go_ret
     exact ⟨reT, hU HB.out⟩
end Go.Proofs.YteopkkoblbmggaaGreat.P
end
section
namespace Go.Proofs.YteopkkoblbmggaaGreat.P
open Go.RowKit Go.Proofs.YteopkkoblbmggaaGreatW.PrintWords Go.Proofs.YteopkkoblbmggaaGreatW.PrintLast Go.Proofs.YteopkkoblbmggaaGreatW.PrintMore
attribute [local go_sem] YW YY Y19 Y1a YM YN YX YZ
set_option linter.unusedVariables false
set_option linter.unusedSimpArgs false
attribute [local go_sem high] eqA42
mutual
def Yj.j0 : Nat → Bool → Int → Int → Int → Int → Int → Bool → Int → Int → Int → Int → Int → Int → Int → Option (Int)
 | 0, _, _, _, _, _, _, _, _, _, _, _, _, _, _ => none
 | k + 1, x19, x_c, x_a, x_2, x_b, x_9, x_8, x_7, x_6, x_3, x_4, x_0, x_1, x_5 => if x19 = true then (some 43) else (if x_2 < 0 then (Yj.j1 k true x_c x_a x_2 x_b x_9 x_8 x_7 x_6 x_3 x_4 x_0 x_1 x_5) else (Yj.j1 k (decide (x_2 ≥ 12)) x_c x_a x_2 x_b x_9 x_8 x_7 x_6 x_3 x_4 x_0 x_1 x_5))
def Yj.j1 : Nat → Bool → Int → Int → Int → Int → Int → Bool → Int → Int → Int → Int → Int → Int → Int → Option (Int)
 | 0, _, _, _, _, _, _, _, _, _, _, _, _, _, _ => none
 | k + 1, x27, x_c, x_a, x_2, x_b, x_9, x_8, x_7, x_6, x_3, x_4, x_0, x_1, x_5 => if x27 = true then (some 33) else (if x_8 = true then (if (!(x_7 == 0) || (!(x_6 == 0) || (!(x_3 == 0) || (!(x_4 == 0) || (!(x_0 == 0) || (!(x_1 == 0) || (!(x_5 == 0)))))))) = true then (some 2) else (some 0)) else ((Yg.f k x_7 x_6 x_3 x_4 x_0 x_1 x_5).bind fun t_1 => (some t_1)))
end
def Yj.f (k : Nat) (a0_0 : Int) (a0_1 : Int) (a0_2 : Int) (a0_3 : Int) (a0_4 : Int) (a0_5 : Bool) (a0_6 : Int) (a0_7 : Int) (a0_8 : Int) (a0_9 : Int) (a0_10 : Int) (a0_11 : Int) (a0_12 : Int) : Option (Int) := (YF.f a0_0 a0_1).bind fun t_2 => (if t_2 = true then ((YF.f a0_3 a0_4).bind fun t_3 => (if t_3 = true then ((YE.f a0_0 a0_1 a0_3 a0_4).bind fun t_0 => (Yj.j0 k t_0 a0_0 a0_1 a0_2 a0_3 a0_4 a0_5 a0_6 a0_7 a0_8 a0_9 a0_10 a0_11 a0_12)) else (Yj.j0 k true a0_0 a0_1 a0_2 a0_3 a0_4 a0_5 a0_6 a0_7 a0_8 a0_9 a0_10 a0_11 a0_12))) else (Yj.j0 k true a0_0 a0_1 a0_2 a0_3 a0_4 a0_5 a0_6 a0_7 a0_8 a0_9 a0_10 a0_11 a0_12))
theorem Yj.mono_l : ∀ k, (∀ y0 y1 y2 y3 y4 y5 y6 y7 y8 y9 y10 y11 y12 y13, LeO (Yj.j0 k y0 y1 y2 y3 y4 y5 y6 y7 y8 y9 y10 y11 y12 y13) (Yj.j0 (k + 1) y0 y1 y2 y3 y4 y5 y6 y7 y8 y9 y10 y11 y12 y13)) ∧ (∀ y0 y1 y2 y3 y4 y5 y6 y7 y8 y9 y10 y11 y12 y13, LeO (Yj.j1 k y0 y1 y2 y3 y4 y5 y6 y7 y8 y9 y10 y11 y12 y13) (Yj.j1 (k + 1) y0 y1 y2 y3 y4 y5 y6 y7 y8 y9 y10 y11 y12 y13))
 | 0 => ⟨fun _ _ _ _ _ _ _ _ _ _ _ _ _ _ r h => by simp [Yj.j0] at h, fun _ _ _ _ _ _ _ _ _ _ _ _ _ _ r h => by simp [Yj.j1] at h⟩
 | k + 1 => by
  obtain ⟨ih0, ih1⟩ := Yj.mono_l k; refine ⟨?_, ?_⟩
  ·intro y0 y1 y2 y3 y4 y5 y6 y7 y8 y9 y10 y11 y12 y13; unfold Yj.j0
   repeat' first
   | (with_reducible exact ih0 _ _ _ _ _ _ _ _ _ _ _ _ _ _)
   | (with_reducible exact ih1 _ _ _ _ _ _ _ _ _ _ _ _ _ _)
   | (with_reducible exact Yg.mono _ _ _ _ _ _ _ _)
   | (with_reducible exact LeO.refl _)
   | (with_reducible exact LeO.none _)
   | (with_reducible refine LeO.ite ?_ ?_)
   | (with_reducible refine LeO.bind ?_ (fun _ => ?_))
  ·intro y0 y1 y2 y3 y4 y5 y6 y7 y8 y9 y10 y11 y12 y13; unfold Yj.j1
   repeat' first
   | (with_reducible exact ih0 _ _ _ _ _ _ _ _ _ _ _ _ _ _)
   | (with_reducible exact ih1 _ _ _ _ _ _ _ _ _ _ _ _ _ _)
   | (with_reducible exact Yg.mono _ _ _ _ _ _ _ _)
   | (with_reducible exact LeO.refl _)
   | (with_reducible exact LeO.none _)
   | (with_reducible refine LeO.ite ?_ ?_)
   | (with_reducible refine LeO.bind ?_ (fun _ => ?_))
theorem Yj.mono : ∀ a0 a1 a2 a3 a4 a5 a6 a7 a8 a9 a10 a11 a12 k, LeO (Yj.f k a0 a1 a2 a3 a4 a5 a6 a7 a8 a9 a10 a11 a12) (Yj.f (k + 1) a0 a1 a2 a3 a4 a5 a6 a7 a8 a9 a10 a11 a12) := by
 intro a0 a1 a2 a3 a4 a5 a6 a7 a8 a9 a10 a11 a12 k; obtain ⟨ih0, ih1⟩ := Yj.mono_l k; unfold Yj.f
 repeat' first
   | (with_reducible exact ih0 _ _ _ _ _ _ _ _ _ _ _ _ _ _)
   | (with_reducible exact ih1 _ _ _ _ _ _ _ _ _ _ _ _ _ _)
   | (with_reducible exact Yg.mono _ _ _ _ _ _ _ _)
   | (with_reducible exact LeO.refl _)
   | (with_reducible exact LeO.none _)
   | (with_reducible refine LeO.ite ?_ ?_)
   | (with_reducible refine LeO.bind ?_ (fun _ => ?_))
set_option maxHeartbeats 8000000 in
set_option maxRecDepth 100000 in
theorem Yj.calls (k : Nat) (a0_0 : Int) (a0_1 : Int) (a0_2 : Int) (a0_3 : Int) (a0_4 : Int) (a0_5 : Bool) (a0_6 : Int) (a0_7 : Int) (a0_8 : Int) (a0_9 : Int) (a0_10 : Int) (a0_11 : Int) (a0_12 : Int) (r : Int) (w : World) (h : Yj.f k a0_0 a0_1 a0_2 a0_3 a0_4 a0_5 a0_6 a0_7 a0_8 a0_9 a0_10 a0_11 a0_12 = some r) :
  Calls Tryz.prog 42 #[.agg #[.int .i64 a0_0, .int .i64 a0_1, .int .i64 a0_2, .int .i64 a0_3, .int .i64 a0_4, .bool a0_5, .int .i64 a0_6, .int .i64 a0_7, .int .i64 a0_8, .int .i64 a0_9, .int .i64 a0_10, .int .i64 a0_11, .int .i64 a0_12]] w fun e w' => e = .returned (.int .i64 r) ∧ Below w.heap.size w w' := by
 have hu52 := Tryz.underlying52; have hu46 := Tryz.underlying46; have hu42 := Tryz.underlying42; have HB := Y0.mk (Below.refl w.heap.size w); have H : ((YF.f a0_0 a0_1).bind fun t_2 => (if t_2 = true then ((YF.f a0_3 a0_4).bind fun t_3 => (if t_3 = true then ((YE.f a0_0 a0_1 a0_3 a0_4).bind fun t_0 => (Yj.j0 k t_0 a0_0 a0_1 a0_2 a0_3 a0_4 a0_5 a0_6 a0_7 a0_8 a0_9 a0_10 a0_11 a0_12)) else (Yj.j0 k true a0_0 a0_1 a0_2 a0_3 a0_4 a0_5 a0_6 a0_7 a0_8 a0_9 a0_10 a0_11 a0_12))) else (Yj.j0 k true a0_0 a0_1 a0_2 a0_3 a0_4 a0_5 a0_6 a0_7 a0_8 a0_9 a0_10 a0_11 a0_12))) = some r := h; clear h; have HC2 := Y0.mk H; clear H; go_enter Tryz.func42, Tryz.ntmps42
 go_upto_region 1 with (first | ((with_reducible refine Yf (N := 1) rfl ?_); refine Yi ?hg (N := 1) ?hd (cs := #[.int .i64 a0_0, .int .i64 a0_1, .int .i64 a0_2, .int .i64 a0_3, .int .i64 a0_4, .bool a0_5, .int .i64 a0_6, .int .i64 a0_7, .int .i64 a0_8, .int .i64 a0_9, .int .i64 a0_10, .int .i64 a0_11, .int .i64 a0_12]) (t := 52) ?hr ?_; (case hd => rfl); (case hg => rfl); (case hr => first | (go_simp; done) | (go_simp; rfl)); intro g_0 hg w3 hbox hb; have n0_ := Y0.mk (Y5 (hU HB.out) hb); have n1_ := Y0.mk (hbox); have n2_ := gE hg HB; have n3_ := gE hg HB; clear HB; have HB := n0_; have B_0 := n1_; have W_0 := n2_; have G_0 := n3_; clear n0_ n1_ n2_ n3_; clear hb hbox hg))
 (try simp only [Act.put, List.setIfInBounds_toArray, List.set_cons_zero, List.set_cons_succ]); go_cut [19] (fun v19 wc => ∃ (kq : Nat) (x19_1 : Bool), v19 = .bool x19_1 ∧ Y0 (Yj.j0 kq x19_1 a0_0 a0_1 a0_2 a0_3 a0_4 a0_5 a0_6 a0_7 a0_8 a0_9 a0_10 a0_11 a0_12 = some r) ∧ Y0 (kq ≤ k) ∧ Y0 (wc.heap[g_0]? = some (.cells #[.int .i64 a0_0, .int .i64 a0_1, .int .i64 a0_2, .int .i64 a0_3, .int .i64 a0_4, .bool a0_5, .int .i64 a0_6, .int .i64 a0_7, .int .i64 a0_8, .int .i64 a0_9, .int .i64 a0_10, .int .i64 a0_11, .int .i64 a0_12] 52 (0, 0))) ∧ Y0 (Below w.heap.size w wc))
 case first =>
  have H := HC2.out; clear HC2; obtain ⟨t_2, A40, H⟩ := bS H; try dsimp only at H
  have A4 := Y0.mk A40; clear A40; by_cases c5 : t_2 = true
  ·subst c5; rw [if_pos rfl] at H; obtain ⟨t_3, A60, H⟩ := bS H; try dsimp only at H
   have A6 := Y0.mk A60; clear A60; by_cases c7 : t_3 = true
   ·subst c7; rw [if_pos rfl] at H; obtain ⟨t_0, A80, H⟩ := bS H; replace H : (Yj.j0 k t_0 a0_0 a0_1 a0_2 a0_3 a0_4 a0_5 a0_6 a0_7 a0_8 a0_9 a0_10 a0_11 a0_12) = some r := H; have A8 := Y0.mk A80; clear A80; have H' := Y0.mk H; clear H; have z_5 := Y2 B_0.out; have f_1 := Y4 B_0.out; go_wp2_with (first | ((with_reducible refine Ye (f := 57) rfl ?_); refine goesA (some 5) Tryz.func57 #[.agg #[.int .i64 a0_0, .int .i64 a0_1]] ?_; (with_reducible refine (YF.calls a0_0 a0_1 true _ A4.out).mono ?_); rintro e w10 ⟨rfl, hb⟩; refine ⟨_, rfl, ?_⟩; replace B_0 := Y0.mk (Y3 (bU B_0.out) hb); replace HB := Y0.mk (Y5 (hU HB.out) hb); (try clear hb); have z_1 := Y2 B_0.out; have f_2 := Y4 B_0.out) | (go_at_call 57; (with_reducible refine (YF.calls a0_3 a0_4 true _ A6.out).mono ?_); rintro e w12 ⟨rfl, hb⟩; replace B_0 := Y0.mk (Y3 (bU B_0.out) hb); replace HB := Y0.mk (Y5 (hU HB.out) hb); (try clear hb); have z_0 := Y2 B_0.out; have f_4 := Y4 B_0.out) | (go_at_call 43; (with_reducible refine (YE.calls a0_0 a0_1 a0_3 a0_4 t_0 _ A8.out).mono ?_); rintro e w14 ⟨rfl, hb⟩; replace B_0 := Y0.mk (Y3 (bU B_0.out) hb); replace HB := Y0.mk (Y5 (hU HB.out) hb); (try clear hb)))
    go_meet
    case rel => exact ⟨_, (t_0), reS, H', ⟨by first | omega | exact Nat.le_refl _⟩, ⟨kB B_0⟩, ⟨hU HB.out⟩⟩
   ·replace c7 := Bool.eq_false_iff.mpr c7; subst c7; have H1 : (Yj.j0 k true a0_0 a0_1 a0_2 a0_3 a0_4 a0_5 a0_6 a0_7 a0_8 a0_9 a0_10 a0_11 a0_12) = some r := by rw [if_neg (show ¬ (false = true) by decide)] at H; exact H
    clear H; have H := H1; clear H1; have H' := Y0.mk H; clear H; have z_3 := Y2 B_0.out; have f_5 := Y4 B_0.out; go_wp2_with (first | ((with_reducible refine Ye (f := 57) rfl ?_); refine goesA (some 5) Tryz.func57 #[.agg #[.int .i64 a0_0, .int .i64 a0_1]] ?_; (with_reducible refine (YF.calls a0_0 a0_1 true _ A4.out).mono ?_); rintro e w16 ⟨rfl, hb⟩; refine ⟨_, rfl, ?_⟩; replace B_0 := Y0.mk (Y3 (bU B_0.out) hb); replace HB := Y0.mk (Y5 (hU HB.out) hb); (try clear hb); have z_2 := Y2 B_0.out; have f_3 := Y4 B_0.out) | (go_at_call 57; (with_reducible refine (YF.calls a0_3 a0_4 false _ A6.out).mono ?_); rintro e w18 ⟨rfl, hb⟩; replace B_0 := Y0.mk (Y3 (bU B_0.out) hb); replace HB := Y0.mk (Y5 (hU HB.out) hb); (try clear hb)))
    go_meet
    case rel => exact ⟨_, (true), reS, H', ⟨by first | omega | exact Nat.le_refl _⟩, ⟨kB B_0⟩, ⟨hU HB.out⟩⟩
  ·replace c5 := Bool.eq_false_iff.mpr c5; subst c5; have H1 : (Yj.j0 k true a0_0 a0_1 a0_2 a0_3 a0_4 a0_5 a0_6 a0_7 a0_8 a0_9 a0_10 a0_11 a0_12) = some r := by rw [if_neg (show ¬ (false = true) by decide)] at H; exact H
   clear H; have H := H1; clear H1; have H' := Y0.mk H; clear H; have z_4 := Y2 B_0.out; have f_0 := Y4 B_0.out; go_wp2_with (first | ((with_reducible refine Ye (f := 57) rfl ?_); refine goesA (some 5) Tryz.func57 #[.agg #[.int .i64 a0_0, .int .i64 a0_1]] ?_; (with_reducible refine (YF.calls a0_0 a0_1 false _ A4.out).mono ?_); rintro e w20 ⟨rfl, hb⟩; refine ⟨_, rfl, ?_⟩; replace B_0 := Y0.mk (Y3 (bU B_0.out) hb); replace HB := Y0.mk (Y5 (hU HB.out) hb); (try clear hb)))
   go_meet
   case rel => exact ⟨_, (true), reS, H', ⟨by first | omega | exact Nat.le_refl _⟩, ⟨kB B_0⟩, ⟨hU HB.out⟩⟩
 case rest =>
  clear HC2; (try clear c5); (try clear c7); (try clear z_1); (try clear z_0); (try clear z_3); (try clear z_2); (try clear z_4); (try clear z_5); (try clear f_2); (try clear f_4); (try clear f_5); (try clear f_3); (try clear f_0); (try clear f_1); obtain ⟨kq, x19_1, rfl, HA, HJ1, B_0, HB⟩ := hcut; cases kq with
  | zero => exact absurd HA.out (by simp [Yj.j0])
  | succ kj1 =>
   have H := HA.out; clear HA; simp only [Yj.j0] at H; by_cases c21 : x19_1 = true
   ·subst c21; have H1 : (some 43) = some r := by rw [if_pos rfl] at H; exact H
    clear H; have H := H1; clear H1; obtain rfl := Option.some.inj H; go_wp2
    go_ret
    exact ⟨reT, hU HB.out⟩
   ·replace c21 := Bool.eq_false_iff.mpr c21; subst c21; rw [if_neg (show ¬ (false = true) by decide)] at H; have HC22 := Y0.mk H; clear H; go_upto_region 3 with (fail)
    go_cut [27] (fun v27 wc => ∃ (kq : Nat) (x27_21 : Bool), v27 = .bool x27_21 ∧ Y0 (Yj.j1 kq x27_21 a0_0 a0_1 a0_2 a0_3 a0_4 a0_5 a0_6 a0_7 a0_8 a0_9 a0_10 a0_11 a0_12 = some r) ∧ Y0 (kq ≤ kj1) ∧ Y0 (wc.heap[g_0]? = some (.cells #[.int .i64 a0_0, .int .i64 a0_1, .int .i64 a0_2, .int .i64 a0_3, .int .i64 a0_4, .bool a0_5, .int .i64 a0_6, .int .i64 a0_7, .int .i64 a0_8, .int .i64 a0_9, .int .i64 a0_10, .int .i64 a0_11, .int .i64 a0_12] 52 (0, 0))) ∧ Y0 (Below w.heap.size w wc))
    case first =>
     have H := HC22.out; clear HC22; by_cases c23 : a0_2 < 0
     ·rw [if_pos c23] at H; have c23b0 := decide_eq_true c23; clear c23; (first | rw [c23b0] | (simp only [i64_w, i32_w]; rw [c23b0]) | skip); have H' := Y0.mk H; clear H; have z_1g := Y2 B_0.out; have f_c := Y4 B_0.out; go_wp2
      go_meet
      case rel => exact ⟨_, (true), reS, H', ⟨by have := HJ1.out; first | omega | exact Nat.le_refl _⟩, ⟨kB B_0⟩, ⟨hU HB.out⟩⟩
     ·rw [if_neg c23] at H; have c23b0 := decide_eq_false c23; clear c23; (first | rw [c23b0] | (simp only [i64_w, i32_w]; rw [c23b0]) | skip); have H' := Y0.mk H; clear H; have z_20 := Y2 B_0.out; have f_l := Y4 B_0.out; go_wp2
      go_meet
      case rel => exact ⟨_, (decide (a0_2 ≥ 12)), reS, H', ⟨by have := HJ1.out; first | omega | exact Nat.le_refl _⟩, ⟨kB B_0⟩, ⟨hU HB.out⟩⟩
    case rest =>
     clear HC22; (try clear c5); (try clear c7); (try clear c21); (try clear c23); (try clear c23b0); (try clear z_1); (try clear z_0); (try clear z_3); (try clear z_2); (try clear z_4); (try clear z_1g); (try clear z_20); (try clear z_5); (try clear f_2); (try clear f_4); (try clear f_5); (try clear f_3); (try clear f_0); (try clear f_c); (try clear f_l); (try clear f_1); obtain ⟨kq, x27_21, rfl, HA, HJ21, B_0, HB⟩ := hcut; cases kq with
     | zero => exact absurd HA.out (by simp [Yj.j1])
     | succ kj21 =>
      have H := HA.out; clear HA; simp only [Yj.j1] at H; by_cases c26 : x27_21 = true
      ·subst c26; have H1 : (some 33) = some r := by rw [if_pos rfl] at H; exact H
       clear H; have H := H1; clear H1; obtain rfl := Option.some.inj H; go_wp2
       go_ret
       exact ⟨reT, hU HB.out⟩
      ·replace c26 := Bool.eq_false_iff.mpr c26; subst c26; rw [if_neg (show ¬ (false = true) by decide)] at H; by_cases c27 : a0_5 = true
       ·subst c27; rw [if_pos rfl] at H; by_cases c28 : (!(a0_6 == 0) || (!(a0_7 == 0) || (!(a0_8 == 0) || (!(a0_9 == 0) || (!(a0_10 == 0) || (!(a0_11 == 0) || (!(a0_12 == 0)))))))) = true
        ·rw [if_pos c28] at H; have c28b0 : (!(a0_6 == 0) || (!(a0_7 == 0) || (!(a0_8 == 0) || (!(a0_9 == 0) || (!(a0_10 == 0) || (!(a0_11 == 0) || (!(a0_12 == 0)))))))) = true := c28; clear c28; obtain rfl := Option.some.inj H; have z_2k := Y2 B_0.out; have f_2m := Y4 B_0.out; go_wp2
         go_ret
         exact ⟨reT, hU HB.out⟩
        ·rw [if_neg c28] at H; have c28b0 : (!(a0_6 == 0) || (!(a0_7 == 0) || (!(a0_8 == 0) || (!(a0_9 == 0) || (!(a0_10 == 0) || (!(a0_11 == 0) || (!(a0_12 == 0)))))))) = false := by simpa using c28
         clear c28; obtain rfl := Option.some.inj H; have z_2w := Y2 B_0.out; have f_2a := Y4 B_0.out; go_wp2
         go_ret
         exact ⟨reT, hU HB.out⟩
       ·replace c27 := Bool.eq_false_iff.mpr c27; subst c27; have H1 : ((Yg.f kj21 a0_6 a0_7 a0_8 a0_9 a0_10 a0_11 a0_12).bind fun t_1 => (some t_1)) = some r := by rw [if_neg (show ¬ (false = true) by decide)] at H; exact H
        clear H; have H := H1; clear H1; obtain ⟨t_1, A310, H⟩ := bS H; replace H : (some t_1) = some r := H; have A31 := Y0.mk A310; clear A310; obtain rfl := Option.some.inj H; have z_2n := Y2 B_0.out; have f_2u := Y4 B_0.out; go_wp2_with (first | ((with_reducible refine Ye (f := 58) rfl ?_); refine goesA (some 33) Tryz.func58 #[.agg #[.int .i64 a0_6, .int .i64 a0_7, .int .i64 a0_8, .int .i64 a0_9, .int .i64 a0_10, .int .i64 a0_11, .int .i64 a0_12]] ?_; (with_reducible refine (Yg.calls kj21 a0_6 a0_7 a0_8 a0_9 a0_10 a0_11 a0_12 t_1 _ A31.out).mono ?_); rintro e w33 ⟨rfl, hb⟩; refine ⟨_, rfl, ?_⟩; replace B_0 := Y0.mk (Y3 (bU B_0.out) hb); replace HB := Y0.mk (Y5 (hU HB.out) hb); (try clear hb)))
        go_ret
        exact ⟨reT, hU HB.out⟩
end Go.Proofs.YteopkkoblbmggaaGreat.P
end

/- Texts of this claim in one: VP9, VSymP, VChkE, VNw, VCloneE, VMapS, VFound, VInsK, VIns; no condition. -/
import Derived.Test.YteopkkoblbmggaaGreatQZAC
import Derived.Test.YteopkkoblbmggaaGreatQZAE
import Derived.Test.YteopkkoblbmggaaGreatQZAF
import Derived.Test.YteopkkoblbmggaaGreatQZAG
import Derived.Test.YteopkkoblbmggaaGreatQZAA
import Derived.Deep.Light
import Derived.WalkSpells
import Derived.Laws.Cover3
import Derived.Maps.OwnSet
import Derived.Maps.OwnOps
import Derived.DeepKeys4
import Derived.Laws.CopyRow
import Derived.Laws.IdiomCopy
import Derived.Shelf.Spec.SlicesInsert
import Derived.Shelf.Spec.SlicesInsertGrow
section
namespace Go.Proofs.YteopkkoblbmggaaGreat.P
open Go.RowKit Go.Proofs.YteopkkoblbmggaaGreatW.PrintWords Go.Proofs.YteopkkoblbmggaaGreatW.PrintLast Go.Proofs.YteopkkoblbmggaaGreatW.PrintMore
attribute [local go_sem] YW YY Y19 Y1a YM YN YX YZ
set_option linter.unusedVariables false
set_option linter.unusedSimpArgs false
attribute [local go_sem high] eqA42
mutual
def Yy.j0 : Nat → Bool → Int → Int → Int → Int → Int → Bool → Int → Int → Int → Int → Int → Int → Int → Option (Int)
 | 0, _, _, _, _, _, _, _, _, _, _, _, _, _, _ => none
 | k + 1, x19, x_c, x_9, x_3, x_a, x_b, x_8, x_0, x_2, x_5, x_7, x_6, x_1, x_4 => if x19 = true then (some 43) else (if x_3 < 0 then (Yy.j1 k true x_c x_9 x_3 x_a x_b x_8 x_0 x_2 x_5 x_7 x_6 x_1 x_4) else (Yy.j1 k (decide (x_3 ≥ 12)) x_c x_9 x_3 x_a x_b x_8 x_0 x_2 x_5 x_7 x_6 x_1 x_4))
def Yy.j1 : Nat → Bool → Int → Int → Int → Int → Int → Bool → Int → Int → Int → Int → Int → Int → Int → Option (Int)
 | 0, _, _, _, _, _, _, _, _, _, _, _, _, _, _ => none
 | k + 1, x27, x_c, x_9, x_3, x_a, x_b, x_8, x_0, x_2, x_5, x_7, x_6, x_1, x_4 => if x27 = true then (some 33) else (if x_8 = true then (if (!(x_0 == 0) || (!(x_2 == 0) || (!(x_5 == 0) || (!(x_7 == 0) || (!(x_6 == 0) || (!(x_1 == 0) || (!(x_4 == 0)))))))) = true then (some 2) else (some 0)) else ((YB.f k x_0 x_2 x_5 x_7 x_6 x_1 x_4).bind fun t_1 => (some t_1)))
end
def Yy.f (k : Nat) (a0_0 : Int) (a0_1 : Int) (a0_2 : Int) (a0_3 : Int) (a0_4 : Int) (a0_5 : Bool) (a0_6 : Int) (a0_7 : Int) (a0_8 : Int) (a0_9 : Int) (a0_10 : Int) (a0_11 : Int) (a0_12 : Int) : Option (Int) := (Y1p.f a0_0 a0_1).bind fun t_3 => (if t_3 = true then ((Y1p.f a0_3 a0_4).bind fun t_2 => (if t_2 = true then ((Y15.f a0_0 a0_1 a0_3 a0_4).bind fun t_0 => (Yy.j0 k t_0 a0_0 a0_1 a0_2 a0_3 a0_4 a0_5 a0_6 a0_7 a0_8 a0_9 a0_10 a0_11 a0_12)) else (Yy.j0 k true a0_0 a0_1 a0_2 a0_3 a0_4 a0_5 a0_6 a0_7 a0_8 a0_9 a0_10 a0_11 a0_12))) else (Yy.j0 k true a0_0 a0_1 a0_2 a0_3 a0_4 a0_5 a0_6 a0_7 a0_8 a0_9 a0_10 a0_11 a0_12))
theorem Yy.mono_l : ∀ k, (∀ y0 y1 y2 y3 y4 y5 y6 y7 y8 y9 y10 y11 y12 y13, LeO (Yy.j0 k y0 y1 y2 y3 y4 y5 y6 y7 y8 y9 y10 y11 y12 y13) (Yy.j0 (k + 1) y0 y1 y2 y3 y4 y5 y6 y7 y8 y9 y10 y11 y12 y13)) ∧ (∀ y0 y1 y2 y3 y4 y5 y6 y7 y8 y9 y10 y11 y12 y13, LeO (Yy.j1 k y0 y1 y2 y3 y4 y5 y6 y7 y8 y9 y10 y11 y12 y13) (Yy.j1 (k + 1) y0 y1 y2 y3 y4 y5 y6 y7 y8 y9 y10 y11 y12 y13))
 | 0 => ⟨fun _ _ _ _ _ _ _ _ _ _ _ _ _ _ r h => by simp [Yy.j0] at h, fun _ _ _ _ _ _ _ _ _ _ _ _ _ _ r h => by simp [Yy.j1] at h⟩
 | k + 1 => by
  obtain ⟨ih0, ih1⟩ := Yy.mono_l k; refine ⟨?_, ?_⟩
  ·intro y0 y1 y2 y3 y4 y5 y6 y7 y8 y9 y10 y11 y12 y13; unfold Yy.j0
   repeat' first
   | (with_reducible exact ih0 _ _ _ _ _ _ _ _ _ _ _ _ _ _)
   | (with_reducible exact ih1 _ _ _ _ _ _ _ _ _ _ _ _ _ _)
   | (with_reducible exact YB.mono _ _ _ _ _ _ _ _)
   | (with_reducible exact LeO.refl _)
   | (with_reducible exact LeO.none _)
   | (with_reducible refine LeO.ite ?_ ?_)
   | (with_reducible refine LeO.bind ?_ (fun _ => ?_))
  ·intro y0 y1 y2 y3 y4 y5 y6 y7 y8 y9 y10 y11 y12 y13; unfold Yy.j1
   repeat' first
   | (with_reducible exact ih0 _ _ _ _ _ _ _ _ _ _ _ _ _ _)
   | (with_reducible exact ih1 _ _ _ _ _ _ _ _ _ _ _ _ _ _)
   | (with_reducible exact YB.mono _ _ _ _ _ _ _ _)
   | (with_reducible exact LeO.refl _)
   | (with_reducible exact LeO.none _)
   | (with_reducible refine LeO.ite ?_ ?_)
   | (with_reducible refine LeO.bind ?_ (fun _ => ?_))
theorem Yy.mono : ∀ a0 a1 a2 a3 a4 a5 a6 a7 a8 a9 a10 a11 a12 k, LeO (Yy.f k a0 a1 a2 a3 a4 a5 a6 a7 a8 a9 a10 a11 a12) (Yy.f (k + 1) a0 a1 a2 a3 a4 a5 a6 a7 a8 a9 a10 a11 a12) := by
 intro a0 a1 a2 a3 a4 a5 a6 a7 a8 a9 a10 a11 a12 k; obtain ⟨ih0, ih1⟩ := Yy.mono_l k; unfold Yy.f
 repeat' first
   | (with_reducible exact ih0 _ _ _ _ _ _ _ _ _ _ _ _ _ _)
   | (with_reducible exact ih1 _ _ _ _ _ _ _ _ _ _ _ _ _ _)
   | (with_reducible exact YB.mono _ _ _ _ _ _ _ _)
   | (with_reducible exact LeO.refl _)
   | (with_reducible exact LeO.none _)
   | (with_reducible refine LeO.ite ?_ ?_)
   | (with_reducible refine LeO.bind ?_ (fun _ => ?_))
set_option maxHeartbeats 8000000 in
set_option maxRecDepth 100000 in
theorem Yy.calls (k : Nat) (a0_0 : Int) (a0_1 : Int) (a0_2 : Int) (a0_3 : Int) (a0_4 : Int) (a0_5 : Bool) (a0_6 : Int) (a0_7 : Int) (a0_8 : Int) (a0_9 : Int) (a0_10 : Int) (a0_11 : Int) (a0_12 : Int) (r : Int) (w : World) (h : Yy.f k a0_0 a0_1 a0_2 a0_3 a0_4 a0_5 a0_6 a0_7 a0_8 a0_9 a0_10 a0_11 a0_12 = some r) :
  Calls Tryz.prog 38 #[.agg #[.int .i64 a0_0, .int .i64 a0_1, .int .i64 a0_2, .int .i64 a0_3, .int .i64 a0_4, .bool a0_5, .int .i64 a0_6, .int .i64 a0_7, .int .i64 a0_8, .int .i64 a0_9, .int .i64 a0_10, .int .i64 a0_11, .int .i64 a0_12]] w fun e w' => e = .returned (.int .i64 r) ∧ Below w.heap.size w w' := by
 have hu52 := Tryz.underlying52; have hu46 := Tryz.underlying46; have hu42 := Tryz.underlying42; have HB := Y0.mk (Below.refl w.heap.size w); have H : ((Y1p.f a0_0 a0_1).bind fun t_3 => (if t_3 = true then ((Y1p.f a0_3 a0_4).bind fun t_2 => (if t_2 = true then ((Y15.f a0_0 a0_1 a0_3 a0_4).bind fun t_0 => (Yy.j0 k t_0 a0_0 a0_1 a0_2 a0_3 a0_4 a0_5 a0_6 a0_7 a0_8 a0_9 a0_10 a0_11 a0_12)) else (Yy.j0 k true a0_0 a0_1 a0_2 a0_3 a0_4 a0_5 a0_6 a0_7 a0_8 a0_9 a0_10 a0_11 a0_12))) else (Yy.j0 k true a0_0 a0_1 a0_2 a0_3 a0_4 a0_5 a0_6 a0_7 a0_8 a0_9 a0_10 a0_11 a0_12))) = some r := h; clear h; have HC2 := Y0.mk H; clear H; go_enter Tryz.func38, Tryz.ntmps38
 go_upto_region 1 with (first | ((with_reducible refine Yf (N := 1) rfl ?_); refine Yi ?hg (N := 1) ?hd (cs := #[.int .i64 a0_0, .int .i64 a0_1, .int .i64 a0_2, .int .i64 a0_3, .int .i64 a0_4, .bool a0_5, .int .i64 a0_6, .int .i64 a0_7, .int .i64 a0_8, .int .i64 a0_9, .int .i64 a0_10, .int .i64 a0_11, .int .i64 a0_12]) (t := 52) ?hr ?_; (case hd => rfl); (case hg => rfl); (case hr => first | (go_simp; done) | (go_simp; rfl)); intro g_0 hg w3 hbox hb; have n0_ := Y0.mk (Y5 (hU HB.out) hb); have n1_ := Y0.mk (hbox); have n2_ := gE hg HB; have n3_ := gE hg HB; clear HB; have HB := n0_; have B_0 := n1_; have W_0 := n2_; have G_0 := n3_; clear n0_ n1_ n2_ n3_; clear hb hbox hg))
 (try simp only [Act.put, List.setIfInBounds_toArray, List.set_cons_zero, List.set_cons_succ]); go_cut [19] (fun v19 wc => ∃ (kq : Nat) (x19_1 : Bool), v19 = .bool x19_1 ∧ Y0 (Yy.j0 kq x19_1 a0_0 a0_1 a0_2 a0_3 a0_4 a0_5 a0_6 a0_7 a0_8 a0_9 a0_10 a0_11 a0_12 = some r) ∧ Y0 (kq ≤ k) ∧ Y0 (wc.heap[g_0]? = some (.cells #[.int .i64 a0_0, .int .i64 a0_1, .int .i64 a0_2, .int .i64 a0_3, .int .i64 a0_4, .bool a0_5, .int .i64 a0_6, .int .i64 a0_7, .int .i64 a0_8, .int .i64 a0_9, .int .i64 a0_10, .int .i64 a0_11, .int .i64 a0_12] 52 (0, 0))) ∧ Y0 (Below w.heap.size w wc))
 case first =>
  have H := HC2.out; clear HC2; obtain ⟨t_3, A40, H⟩ := bS H; try dsimp only at H
  have A4 := Y0.mk A40; clear A40; by_cases c5 : t_3 = true
  ·subst c5; rw [if_pos rfl] at H; obtain ⟨t_2, A60, H⟩ := bS H; try dsimp only at H
   have A6 := Y0.mk A60; clear A60; by_cases c7 : t_2 = true
   ·subst c7; rw [if_pos rfl] at H; obtain ⟨t_0, A80, H⟩ := bS H; replace H : (Yy.j0 k t_0 a0_0 a0_1 a0_2 a0_3 a0_4 a0_5 a0_6 a0_7 a0_8 a0_9 a0_10 a0_11 a0_12) = some r := H; have A8 := Y0.mk A80; clear A80; have H' := Y0.mk H; clear H; have z_5 := Y2 B_0.out; have f_1 := Y4 B_0.out; go_wp2_with (first | ((with_reducible refine Ye (f := 53) rfl ?_); refine goesA (some 5) Tryz.func53 #[.agg #[.int .i64 a0_0, .int .i64 a0_1]] ?_; (with_reducible refine (Y1p.calls a0_0 a0_1 true _ A4.out).mono ?_); rintro e w10 ⟨rfl, hb⟩; refine ⟨_, rfl, ?_⟩; replace B_0 := Y0.mk (Y3 (bU B_0.out) hb); replace HB := Y0.mk (Y5 (hU HB.out) hb); (try clear hb); have z_1 := Y2 B_0.out; have f_2 := Y4 B_0.out) | (go_at_call 53; (with_reducible refine (Y1p.calls a0_3 a0_4 true _ A6.out).mono ?_); rintro e w12 ⟨rfl, hb⟩; replace B_0 := Y0.mk (Y3 (bU B_0.out) hb); replace HB := Y0.mk (Y5 (hU HB.out) hb); (try clear hb); have z_0 := Y2 B_0.out; have f_4 := Y4 B_0.out) | (go_at_call 26; (with_reducible refine (Y15.calls a0_0 a0_1 a0_3 a0_4 t_0 _ A8.out).mono ?_); rintro e w14 ⟨rfl, hb⟩; replace B_0 := Y0.mk (Y3 (bU B_0.out) hb); replace HB := Y0.mk (Y5 (hU HB.out) hb); (try clear hb)))
    go_meet
    case rel => exact ⟨_, (t_0), reS, H', ⟨by first | omega | exact Nat.le_refl _⟩, ⟨kB B_0⟩, ⟨hU HB.out⟩⟩
   ·replace c7 := Bool.eq_false_iff.mpr c7; subst c7; have H1 : (Yy.j0 k true a0_0 a0_1 a0_2 a0_3 a0_4 a0_5 a0_6 a0_7 a0_8 a0_9 a0_10 a0_11 a0_12) = some r := by rw [if_neg (show ¬ (false = true) by decide)] at H; exact H
    clear H; have H := H1; clear H1; have H' := Y0.mk H; clear H; have z_3 := Y2 B_0.out; have f_5 := Y4 B_0.out; go_wp2_with (first | ((with_reducible refine Ye (f := 53) rfl ?_); refine goesA (some 5) Tryz.func53 #[.agg #[.int .i64 a0_0, .int .i64 a0_1]] ?_; (with_reducible refine (Y1p.calls a0_0 a0_1 true _ A4.out).mono ?_); rintro e w16 ⟨rfl, hb⟩; refine ⟨_, rfl, ?_⟩; replace B_0 := Y0.mk (Y3 (bU B_0.out) hb); replace HB := Y0.mk (Y5 (hU HB.out) hb); (try clear hb); have z_2 := Y2 B_0.out; have f_3 := Y4 B_0.out) | (go_at_call 53; (with_reducible refine (Y1p.calls a0_3 a0_4 false _ A6.out).mono ?_); rintro e w18 ⟨rfl, hb⟩; replace B_0 := Y0.mk (Y3 (bU B_0.out) hb); replace HB := Y0.mk (Y5 (hU HB.out) hb); (try clear hb)))
    go_meet
    case rel => exact ⟨_, (true), reS, H', ⟨by first | omega | exact Nat.le_refl _⟩, ⟨kB B_0⟩, ⟨hU HB.out⟩⟩
  ·replace c5 := Bool.eq_false_iff.mpr c5; subst c5; have H1 : (Yy.j0 k true a0_0 a0_1 a0_2 a0_3 a0_4 a0_5 a0_6 a0_7 a0_8 a0_9 a0_10 a0_11 a0_12) = some r := by rw [if_neg (show ¬ (false = true) by decide)] at H; exact H
   clear H; have H := H1; clear H1; have H' := Y0.mk H; clear H; have z_4 := Y2 B_0.out; have f_0 := Y4 B_0.out; go_wp2_with (first | ((with_reducible refine Ye (f := 53) rfl ?_); refine goesA (some 5) Tryz.func53 #[.agg #[.int .i64 a0_0, .int .i64 a0_1]] ?_; (with_reducible refine (Y1p.calls a0_0 a0_1 false _ A4.out).mono ?_); rintro e w20 ⟨rfl, hb⟩; refine ⟨_, rfl, ?_⟩; replace B_0 := Y0.mk (Y3 (bU B_0.out) hb); replace HB := Y0.mk (Y5 (hU HB.out) hb); (try clear hb)))
   go_meet
   case rel => exact ⟨_, (true), reS, H', ⟨by first | omega | exact Nat.le_refl _⟩, ⟨kB B_0⟩, ⟨hU HB.out⟩⟩
 case rest =>
  clear HC2; (try clear c5); (try clear c7); (try clear z_1); (try clear z_0); (try clear z_3); (try clear z_2); (try clear z_4); (try clear z_5); (try clear f_2); (try clear f_4); (try clear f_5); (try clear f_3); (try clear f_0); (try clear f_1); obtain ⟨kq, x19_1, rfl, HA, HJ1, B_0, HB⟩ := hcut; cases kq with
  | zero => exact absurd HA.out (by simp [Yy.j0])
  | succ kj1 =>
   have H := HA.out; clear HA; simp only [Yy.j0] at H; by_cases c21 : x19_1 = true
   ·subst c21; have H1 : (some 43) = some r := by rw [if_pos rfl] at H; exact H
    clear H; have H := H1; clear H1; obtain rfl := Option.some.inj H; go_wp2
    go_ret
    exact ⟨reT, hU HB.out⟩
   ·replace c21 := Bool.eq_false_iff.mpr c21; subst c21; rw [if_neg (show ¬ (false = true) by decide)] at H; have HC22 := Y0.mk H; clear H; go_upto_region 3 with (fail)
    go_cut [27] (fun v27 wc => ∃ (kq : Nat) (x27_21 : Bool), v27 = .bool x27_21 ∧ Y0 (Yy.j1 kq x27_21 a0_0 a0_1 a0_2 a0_3 a0_4 a0_5 a0_6 a0_7 a0_8 a0_9 a0_10 a0_11 a0_12 = some r) ∧ Y0 (kq ≤ kj1) ∧ Y0 (wc.heap[g_0]? = some (.cells #[.int .i64 a0_0, .int .i64 a0_1, .int .i64 a0_2, .int .i64 a0_3, .int .i64 a0_4, .bool a0_5, .int .i64 a0_6, .int .i64 a0_7, .int .i64 a0_8, .int .i64 a0_9, .int .i64 a0_10, .int .i64 a0_11, .int .i64 a0_12] 52 (0, 0))) ∧ Y0 (Below w.heap.size w wc))
    case first =>
     have H := HC22.out; clear HC22; by_cases c23 : a0_2 < 0
     ·rw [if_pos c23] at H; have c23b0 := decide_eq_true c23; clear c23; (first | rw [c23b0] | (simp only [i64_w, i32_w]; rw [c23b0]) | skip); have H' := Y0.mk H; clear H; have z_1g := Y2 B_0.out; have f_c := Y4 B_0.out; go_wp2
      go_meet
      case rel => exact ⟨_, (true), reS, H', ⟨by have := HJ1.out; first | omega | exact Nat.le_refl _⟩, ⟨kB B_0⟩, ⟨hU HB.out⟩⟩
     ·rw [if_neg c23] at H; have c23b0 := decide_eq_false c23; clear c23; (first | rw [c23b0] | (simp only [i64_w, i32_w]; rw [c23b0]) | skip); have H' := Y0.mk H; clear H; have z_20 := Y2 B_0.out; have f_l := Y4 B_0.out; go_wp2
      go_meet
      case rel => exact ⟨_, (decide (a0_2 ≥ 12)), reS, H', ⟨by have := HJ1.out; first | omega | exact Nat.le_refl _⟩, ⟨kB B_0⟩, ⟨hU HB.out⟩⟩
    case rest =>
     clear HC22; (try clear c5); (try clear c7); (try clear c21); (try clear c23); (try clear c23b0); (try clear z_1); (try clear z_0); (try clear z_3); (try clear z_2); (try clear z_4); (try clear z_1g); (try clear z_20); (try clear z_5); (try clear f_2); (try clear f_4); (try clear f_5); (try clear f_3); (try clear f_0); (try clear f_c); (try clear f_l); (try clear f_1); obtain ⟨kq, x27_21, rfl, HA, HJ21, B_0, HB⟩ := hcut; cases kq with
     | zero => exact absurd HA.out (by simp [Yy.j1])
     | succ kj21 =>
      have H := HA.out; clear HA; simp only [Yy.j1] at H; by_cases c26 : x27_21 = true
      ·subst c26; have H1 : (some 33) = some r := by rw [if_pos rfl] at H; exact H
       clear H; have H := H1; clear H1; obtain rfl := Option.some.inj H; go_wp2
       go_ret
       exact ⟨reT, hU HB.out⟩
      ·replace c26 := Bool.eq_false_iff.mpr c26; subst c26; rw [if_neg (show ¬ (false = true) by decide)] at H; by_cases c27 : a0_5 = true
       ·subst c27; rw [if_pos rfl] at H; by_cases c28 : (!(a0_6 == 0) || (!(a0_7 == 0) || (!(a0_8 == 0) || (!(a0_9 == 0) || (!(a0_10 == 0) || (!(a0_11 == 0) || (!(a0_12 == 0)))))))) = true
        ·rw [if_pos c28] at H; have c28b0 : (!(a0_6 == 0) || (!(a0_7 == 0) || (!(a0_8 == 0) || (!(a0_9 == 0) || (!(a0_10 == 0) || (!(a0_11 == 0) || (!(a0_12 == 0)))))))) = true := c28; clear c28; obtain rfl := Option.some.inj H; have z_2k := Y2 B_0.out; have f_2m := Y4 B_0.out; go_wp2
         go_ret
         exact ⟨reT, hU HB.out⟩
        ·rw [if_neg c28] at H; have c28b0 : (!(a0_6 == 0) || (!(a0_7 == 0) || (!(a0_8 == 0) || (!(a0_9 == 0) || (!(a0_10 == 0) || (!(a0_11 == 0) || (!(a0_12 == 0)))))))) = false := by simpa using c28
         clear c28; obtain rfl := Option.some.inj H; have z_2w := Y2 B_0.out; have f_2a := Y4 B_0.out; go_wp2
         go_ret
         exact ⟨reT, hU HB.out⟩
       ·replace c27 := Bool.eq_false_iff.mpr c27; subst c27; have H1 : ((YB.f kj21 a0_6 a0_7 a0_8 a0_9 a0_10 a0_11 a0_12).bind fun t_1 => (some t_1)) = some r := by rw [if_neg (show ¬ (false = true) by decide)] at H; exact H
        clear H; have H := H1; clear H1; obtain ⟨t_1, A310, H⟩ := bS H; replace H : (some t_1) = some r := H; have A31 := Y0.mk A310; clear A310; obtain rfl := Option.some.inj H; have z_2n := Y2 B_0.out; have f_2u := Y4 B_0.out; go_wp2_with (first | ((with_reducible refine Ye (f := 54) rfl ?_); refine goesA (some 33) Tryz.func54 #[.agg #[.int .i64 a0_6, .int .i64 a0_7, .int .i64 a0_8, .int .i64 a0_9, .int .i64 a0_10, .int .i64 a0_11, .int .i64 a0_12]] ?_; (with_reducible refine (YB.calls kj21 a0_6 a0_7 a0_8 a0_9 a0_10 a0_11 a0_12 t_1 _ A31.out).mono ?_); rintro e w33 ⟨rfl, hb⟩; refine ⟨_, rfl, ?_⟩; replace B_0 := Y0.mk (Y3 (bU B_0.out) hb); replace HB := Y0.mk (Y5 (hU HB.out) hb); (try clear hb)))
        go_ret
        exact ⟨reT, hU HB.out⟩
end Go.Proofs.YteopkkoblbmggaaGreat.P
end
section
set_option linter.unusedVariables false
set_option linter.unusedSimpArgs false
namespace Go.Proofs.YteopkkoblbmggaaGreat.P
open Go.RowKit Go.Proofs.YteopkkoblbmggaaGreatW.PrintWords Go.Proofs.YteopkkoblbmggaaGreatW.PrintLast Go.Proofs.YteopkkoblbmggaaGreatW.PrintMore
theorem Y3o (x : Int) (h0 : -9223372036854775808 ≤ x) (h1 : x ≤ 9223372036854775807) : wrap64 x = x := by unfold wrap64; omega
def colP (k c : Int) : Prop := if k = 1 ∨ k = 2 then c = 0 ∨ c = 1 else if k = 3 then 2 ≤ c ∧ c < 8 else c = 8
instance (k c : Int) : Decidable (colP k c) := by unfold colP; infer_instance
def sayC (k c d v m : Int) : Int :=
  if k = 1 then (if 0 ≤ d ∧ d ≤ 8 ∧ -1 ≤ v ∧ v ≤ 1 then (if m = 0 then 0 else 2) else 1)
  else if k = 2 then (if d = 0 ∧ v = 0 ∧ m = 0 then 0 else 2)
  else if k = 3 then (ofP (c - 2) d v m).2.2.2
  else if k = 4 then (if d = 0 ∧ v = 0 then (if m < -16 ∨ 16 < m ∨ m = 0 then 1 else 0) else 2) else 0
def chkP (k c b l d v m : Int) : Int :=
  if k < 1 ∨ 4 < k then 9
  else if ¬ colP k c then 16
  else if b < 0 ∨ 8191 < b ∨ l < 1 ∨ 8192 - b < l then 1
  else sayC k c d v m
theorem Y5U (j : Nat) (k c b l d v m : Int) (hc : 0 ≤ c ∧ c ≤ 8) : YO.f (j + 1) k c b l d v m = some (sayC k c d v m) := by
  unfold YO.f sayC; rw [Y3o (c - 2) (by omega) (by omega)]; by_cases k1 : k = 1
  · rw [if_pos k1, if_pos k1]
    have e : dir_Check.f d v = some (if 0 ≤ d ∧ d ≤ 8 ∧ -1 ≤ v ∧ v ≤ 1 then 0 else 1) := aim_Of.dcheck_eq d v; rw [e, Option.bind_some]; by_cases h : 0 ≤ d ∧ d ≤ 8 ∧ -1 ≤ v ∧ v ≤ 1
    · rw [if_pos h, if_pos h, if_pos rfl]; split <;> rfl
    · rw [if_neg h, if_neg h, if_neg (by decide)]
  · rw [if_neg k1, if_neg k1]
    by_cases k2 : k = 2
    · rw [if_pos k2, if_pos k2]
      by_cases h : d = 0 <;> by_cases h' : v = 0 <;> by_cases h'' : m = 0 <;> simp [h, h', h'']
    · rw [if_neg k2, if_neg k2]
      by_cases k3 : k = 3
      · rw [if_pos k3, if_pos k3]
        simp only [aim_Of.f, Option.bind_some]
      · rw [if_neg k3, if_neg k3]
        simp only [YO.j0]; by_cases k4 : k = 4 <;> by_cases h : d = 0 <;> by_cases h' : v = 0 <;> simp [k4, h, h']
        by_cases a : m < -16 <;> by_cases a' : 16 < m <;> by_cases a'' : m = 0 <;> simp [a, a', a'']
theorem Y5j (k c b l d v m : Int) (h : ¬ (k < 1 ∨ 4 < k)) : Y1r.f k c b l d v m = some (decide (colP k c)) := by
  unfold Y1r.f Y1q.f colP
  grind
theorem Y4j (j : Nat) (x : Bool) (k c b l d v m : Int) (hx : x = false) (h1 : ¬ (k < 1 ∨ 4 < k)) : YB.j0 (j + 2) x k c b l d v m = some (chkP k c b l d v m) := by
  subst hx; simp only [YB.j0, chkP, if_neg h1]; rw [Y5j k c b l d v m h1, if_neg (by decide)]; simp only [Option.bind_some, decide_eq_true_eq]; by_cases h2 : colP k c
  · have hc : 0 ≤ c ∧ c ≤ 8 := by unfold colP at h2; grind
    rw [if_pos h2, if_neg (not_not_intro h2), Y5U j k c b l d v m hc]; by_cases h3 : b < 0 ∨ 8191 < b
    · rw [if_pos (by omega : b < 0 ∨ 8191 < b ∨ l < 1 ∨ 8192 - b < l)]
      rcases h3 with h3 | h3
      · rw [if_pos h3]
      · rw [if_neg (by omega), if_pos (by omega)]
    · rw [Y3o (8192 - b) (by omega) (by omega), if_neg (by omega), if_neg (by omega)]
      by_cases h4 : l < 1 ∨ 8192 - b < l
      · rw [if_pos (by omega : b < 0 ∨ 8191 < b ∨ l < 1 ∨ 8192 - b < l)]
        rcases h4 with h4 | h4
        · rw [if_pos h4]
        · by_cases h5 : l < 1
          · rw [if_pos h5]
          · rw [if_neg h5, if_pos (by omega)]
      · rw [if_neg (by omega), if_neg (by omega), if_neg (by omega : ¬ (b < 0 ∨ 8191 < b ∨ l < 1 ∨ 8192 - b < l))]
        rfl
  · rw [if_neg h2, if_pos h2]
theorem Y2L (j : Nat) (k c b l d v m : Int) : YB.f (j + 2) k c b l d v m = some (chkP k c b l d v m) := by
  unfold YB.f; by_cases h1 : k < 1 ∨ 4 < k
  · have e : chkP k c b l d v m = 9 := by rw [chkP, if_pos h1]
    rw [e]; rcases h1 with h1 | h1
    · rw [if_pos h1]; simp [YB.j0]
    · rw [if_neg (by omega)]; simp [YB.j0, h1]
  · rw [if_neg (by omega)]
    exact Y4j j _ k c b l d v m (by simp; omega) h1
def valP (c d : Int) : Bool := decide (1 ≤ c ∧ c ≤ 1000000 ∧ 1 ≤ d ∧ d ≤ 64)
def lessP (a b c d : Int) : Bool := decide (a < c ∨ a = c ∧ b < d)
theorem Y5o (c d : Int) : Y1p.f c d = some (valP c d) := by
  unfold Y1p.f valP; by_cases h1 : 1 ≤ c <;> by_cases h2 : c ≤ 1000000 <;> by_cases h3 : 1 ≤ d <;> by_cases h4 : d ≤ 64 <;> simp [h1, h2, h3, h4, GE.ge]
theorem Y1K (a b c d : Int) : Y15.f a b c d = some (lessP a b c d) := by
  unfold Y15.f lessP; by_cases h1 : a < c
  · simp [h1]
  · by_cases h2 : a = c <;> simp [h1, h2]
def chkE (a0 a1 a2 a3 a4 : Int) (a5 : Bool) (a6 a7 a8 a9 a10 a11 a12 : Int) : Int :=
  if valP a0 a1 = false ∨ valP a3 a4 = false ∨ lessP a0 a1 a3 a4 = true then 43
  else if a2 < 0 ∨ 12 ≤ a2 then 33
  else if a5 = true then (if a6 = 0 ∧ a7 = 0 ∧ a8 = 0 ∧ a9 = 0 ∧ a10 = 0 ∧ a11 = 0 ∧ a12 = 0 then 0 else 2)
  else chkP a6 a7 a8 a9 a10 a11 a12
theorem Y5r (j : Nat) (x : Bool) (a0 a1 a2 a3 a4 : Int) (a5 : Bool) (a6 a7 a8 a9 a10 a11 a12 : Int) :
    Yy.j0 (j + 4) x a0 a1 a2 a3 a4 a5 a6 a7 a8 a9 a10 a11 a12 = some (if x = true then 43 else if a2 < 0 ∨ 12 ≤ a2 then 33
      else if a5 = true then (if a6 = 0 ∧ a7 = 0 ∧ a8 = 0 ∧ a9 = 0 ∧ a10 = 0 ∧ a11 = 0 ∧ a12 = 0 then 0 else 2) else chkP a6 a7 a8 a9 a10 a11 a12) := by
  simp only [Yy.j0, Yy.j1, Y2L, Option.bind_some]; cases x
  · simp only [Bool.false_eq_true, if_false, if_true]
    by_cases h1 : a2 < 0
    · rw [if_pos h1, if_pos (Or.inl h1)]
    · rw [if_neg h1]
      by_cases h2 : 12 ≤ a2
      · rw [if_pos (by simpa using h2), if_pos (Or.inr h2)]
      · rw [if_neg (by simpa using h2), if_neg (show ¬ (a2 < 0 ∨ 12 ≤ a2) by omega)]
        cases a5
        · simp
        · simp only [if_true]
          by_cases h : a6 = 0 ∧ a7 = 0 ∧ a8 = 0 ∧ a9 = 0 ∧ a10 = 0 ∧ a11 = 0 ∧ a12 = 0
          · obtain ⟨rfl, rfl, rfl, rfl, rfl, rfl, rfl⟩ := h
            rfl
          · rw [if_neg h, if_pos]
            simp only [Bool.or_eq_true, Bool.not_eq_true', beq_eq_false_iff_ne]; by_cases b1 : a6 = 0
            · by_cases b2 : a7 = 0
              · by_cases b3 : a8 = 0
                · by_cases b4 : a9 = 0
                  · by_cases b5 : a10 = 0
                    · by_cases b6 : a11 = 0
                      · by_cases b7 : a12 = 0
                        · exact absurd ⟨b1, b2, b3, b4, b5, b6, b7⟩ h
                        · exact Or.inr (Or.inr (Or.inr (Or.inr (Or.inr (Or.inr b7)))))
                      · exact Or.inr (Or.inr (Or.inr (Or.inr (Or.inr (Or.inl b6)))))
                    · exact Or.inr (Or.inr (Or.inr (Or.inr (Or.inl b5))))
                  · exact Or.inr (Or.inr (Or.inr (Or.inl b4)))
                · exact Or.inr (Or.inr (Or.inl b3))
              · exact Or.inr (Or.inl b2)
            · exact Or.inl b1
  · simp
theorem Y3S (j : Nat) (a0 a1 a2 a3 a4 : Int) (a5 : Bool) (a6 a7 a8 a9 a10 a11 a12 : Int) :
    Yy.f (j + 4) a0 a1 a2 a3 a4 a5 a6 a7 a8 a9 a10 a11 a12 = some (chkE a0 a1 a2 a3 a4 a5 a6 a7 a8 a9 a10 a11 a12) := by
  unfold Yy.f chkE; simp only [Y5o, Y1K, Option.bind_some, Y5r]; cases h1 : valP a0 a1 <;> cases h2 : valP a3 a4 <;> cases h3 : lessP a0 a1 a3 a4 <;> simp
end Go.Proofs.YteopkkoblbmggaaGreat.P
end
section
namespace Go.Proofs.YteopkkoblbmggaaGreatW.PrintWords
open Go.RowKit

end Go.Proofs.YteopkkoblbmggaaGreatW.PrintWords
end
section
set_option linter.unusedVariables false
set_option linter.unusedSimpArgs false
namespace Go.Proofs.YteopkkoblbmggaaGreat.P
open Go.RowKit Go.Proofs.YteopkkoblbmggaaGreatW.PrintWords Go.Proofs.YteopkkoblbmggaaGreatW.PrintLast Go.Proofs.YteopkkoblbmggaaGreatW.PrintMore
theorem Y5H (w : World) (t e : TypeId) (a : Option Addr) (l c : Nat) (h : Tryz.prog.underlying t = some (.slice e)) : (binOp .eql t (.slice a l c) (.slice none 0 0)).run Tryz.prog w = .ok (.bool a.isNone) w := by
  simp only [binOp]
  simp [run_equal_slice_nil w t e a l c h]
def slices_Clone_edits.f (l0 : List S52) : Option (List S52) := if l0.length ≤ 1000000000000 then some l0 else none
set_option maxHeartbeats 4000000 in
set_option maxRecDepth 100000 in
theorem slices_Clone_edits.calls (A0 : Option Addr) (c0 : Nat) (l0 r : List S52) (w : World) (hr0 : Kd.C k52 w A0 l0.length l0) (hc0 : l0.length ≤ c0) (h : slices_Clone_edits.f l0 = some r) :
    Calls Tryz.prog 40 #[.slice A0 l0.length c0] w fun e w' => ∃ v_ : Value, e = .returned v_ ∧ Kd.R k52 52 w' w.heap.size (fun _ => True) v_ r ∧ Below w.heap.size w w' := by
  unfold slices_Clone_edits.f at h; by_cases hl : l0.length ≤ 1000000000000
  rotate_left
  · rw [if_neg hl] at h; cases h
  rw [if_pos hl] at h; cases h
  have HR := Y0.mk hr0; have HL := Y0.mk hl; have HB := Y0.mk (Below.refl w.heap.size w); have hus := Tryz.underlying22; have hen := fun (w : World) (a : Option Addr) (l c : Nat) => Y5H w _ _ a l c hus
  clear hl; cases A0 with
  | none =>
    have hn : l0 = [] := by
      rcases Nat.eq_zero_or_pos l0.length with h0 | h0
      · exact List.length_eq_zero_iff.mp h0
      · obtain ⟨ad, e, _⟩ := hr0.2.2 h0
        cases e
    subst hn; clear hr0; go_enter Tryz.func40, Tryz.ntmps40
    go_wp2
    go_ret
    exact ⟨_, rfl, Kd.R_nil _ _ _ _ _, HB.out⟩
  | some ad =>
    clear hr0; go_enter Tryz.func40, Tryz.ntmps40
    go_wp2_with (first | ((with_reducible refine Yf (N := 5) rfl ?_); refine Kd.R_lit k52 (w0 := w) w.heap.size 52 ?hg (N := 5) ?hd (xs := []) (inner := []) (ok := fun _ => True) (okp := fun _ => True) ?hr (Reps.none _ _) (fun _ hk => hk) trivial HB.out (Nat.le_refl _) (by simp) ?_; (case hd => rfl); (case hg => rfl); (case hr => first | (go_simp; done) | (go_simp; rfl)); intro v1 w1 ho hb hg_ hnew_; have HO := Y0.mk ho; have HB1 := Y0.mk hb; clear ho hb hg_ hnew_) | ((with_reducible refine Yf (N := 7) rfl ?_); at_builtin; refine Kd.R_append_rows k52 (w0 := w) w.heap.size rfl (.tmp 5) (.tmp 6) 22 52 (.agg #[(.int .i64 0), (.int .i64 0), (.int .i64 0), (.int .i64 0), (.int .i64 0), (.bool false), (.int .i64 0), (.int .i64 0), (.int .i64 0), (.int .i64 0), (.int .i64 0), (.int .i64 0), (.int .i64 0)]) 104 rfl Tryz.underlying22 Y1E rfl (by decide) (by omega) v1 [] l0 (some ad) l0.length c0 (fun _ => True) (fun _ => False) rfl rfl HO.out (Kd.C_below HR.out HB1.out) (fun _ _ h => h) (fun _ h => h.elim) (fun _ _ => trivial) HB1.out (Ym HB1.out) (by have := HL.out; simp; omega) ?_; intro v2 w2 ho hb hg_ hnew_; have HO2 := Y0.mk ho; have HB2 := Y0.mk hb; clear ho hb hg_ hnew_))
    go_ret
    exact ⟨_, rfl, by have h_ := HO2.out; rw [List.nil_append] at h_; exact h_, HB2.out⟩
end Go.Proofs.YteopkkoblbmggaaGreat.P
end
section
set_option linter.unusedVariables false
set_option linter.unusedSimpArgs false
namespace Go.Proofs.YteopkkoblbmggaaGreat.P
open Go.RowKit Go.Maps Go.Proofs.YteopkkoblbmggaaGreatW.PrintWords Go.Proofs.YteopkkoblbmggaaGreatW.PrintLast Go.Proofs.YteopkkoblbmggaaGreatW.PrintMore
theorem Y5f : laidOutB Tryz.prog = true := by kernel_rfl
theorem rowS : (67 : TypeId) < Tryz.prog.types.size := of_decide_eq_true (by kernel_rfl)
theorem wideS : (match Tryz.prog.underlying 67 with | some (.array _ _) | some (.struct _) => true | _ => false) = true := by kernel_rfl
set_option maxRecDepth 100000 in
theorem lawS : Go.Maps.Keyed Tryz.prog 67 := Go.Maps.Keyed.of_law (deep_law_laid Y5f (m := 3) (by omega) rowS (by kernel_rfl) wideS)
theorem keyTS : Tryz.prog.keyType 67 = true := by kernel_rfl
theorem Y5q : Tryz.prog.cellsOf 67 = 3 := by kernel_rfl
theorem Y61 : Tryz.prog.cellsOf 46 = 2 := by kernel_rfl
theorem Y60 : Tryz.prog.cellsOf 3 = 1 := by kernel_rfl
theorem sizeS : ∃ m, Tryz.prog.types.size = m + 3 := ⟨Tryz.prog.types.size - 3, by have : 3 ≤ Tryz.prog.types.size := of_decide_eq_true (by kernel_rfl); omega⟩
def okN (n : Int) : Prop := (Lit.int .i64 n).wf = true
def kS (p c d : Int) : Lit := .string (keyBytes [.int .i64 p, .int .i64 c, .int .i64 d])
theorem Y1D {p c d : Int} (h1 : okN p) (h2 : okN c) (h3 : okN d) : keyOf Tryz.prog 67 (.agg #[.int .i64 p, .int .i64 c, .int .i64 d]) = some (kS p c d) := by
  unfold okN at h1 h2 h3; obtain ⟨m, hm⟩ := sizeS; unfold keyOf; rw [Tryz.underlying67]; simp only [keyTS, Value.formed, Tryz.underlying67, Y5q, hm]
  simp [Program.keyLits, Tryz.underlying67, Tryz.underlying46, Tryz.underlying3, Y5q, Y61, Y60, h1, h2, h3, Value.cells, kS]
  rw [if_pos (by decide)]; rfl
theorem Y5z {p c d p' c' d' : Int} (h1 : okN p) (h2 : okN c) (h3 : okN d) (h1' : okN p') (h2' : okN c') (h3' : okN d') (h : kS p c d = kS p' c' d') : p = p' ∧ c = c' ∧ d = d' := by
  have := lawS.inj (Y1D h1 h2 h3) (h ▸ Y1D h1' h2' h3')
  simp at this
  exact this
theorem Y1V {H : Type} {P : Program} {e : TypeId} (he : P.underlying e = some .bool) {v : Value} {z : DataW H × List MemPlace} (h : plainElem P e v = some z) : ∃ x, v = .bool x ∧ z = (.lit (.bool x), []) := by
  unfold plainElem at h; rw [he] at h; cases v <;> simp at h
  exact ⟨_, rfl, h.symm⟩
theorem zeroB (w : World) : (zeroValue 4).run Tryz.prog w = .ok (.bool false) w := by kernel_rfl
theorem Y1X {H : Type} {P : Program} (w : World) {ops : Array Oper} {rest : List Oper} {o : Oper} {a : Act} {Q : Exit → Act → World → Prop}
    (hg : o.guard = none) (m x : Operand) (t : TypeId) (hop : o.op = Op.lookup t m x false)
    (k e : TypeId) (K : Keyed P k) (ht : P.underlying t = some (.map k e)) (he : P.underlying e = some .bool) (hz : (zeroValue e).run P w = .ok (.bool false) w) (b n : Nat) (D : DataW H)
    (hm : a.eval m = .map (some b)) (hown : w.ownsMap P k (plainElem P e) b n D) (key : Value) (kl : Lit) (hx : a.eval x = key) (hkey : keyOf P k key = some kl) (r : Bool) (hr : D.atKey kl (.lit (.bool false)) = .lit (.bool r))
    (hK : wpList P ops Q rest (a.put o.dst (.bool r)) w) :
    wpList P ops Q (o :: rest) a w := by
  refine wpList_plain hg fun K' hK' => ?_
  obtain ⟨v, ps, hrun, hv⟩ := hown.lookup K ht hz (plainElem_bool he false) hkey; obtain ⟨c, rfl, hc⟩ := Y1V he hv; simp only [Prod.mk.injEq] at hc
  have hcr : c = r := by
    have := hc.1.symm.trans hr
    simpa using this
  subst hcr; unfold Oper.wp
  simp [execOp, hop, hm, hx, hrun, Result.andThen]
  exact hK' _ _ hK
def SaysB (D : DataW Unit) (f : Int → Int → Int → Bool) : Prop := ∀ p c d, okN p → okN c → okN d → D.atKey (kS p c d) (.lit (.bool false)) = .lit (.bool (f p c d))
theorem Y51 {D : DataW Unit} {f : Int → Int → Int → Bool} (h : SaysB D f) (hD : IsMap D) {p c d : Int} (h1 : okN p) (h2 : okN c) (h3 : okN d) :
    SaysB (D.put (kS p c d) (.lit (.bool true))) (fun p' c' d' => f p' c' d' || decide (p' = p ∧ c' = c ∧ d' = d)) := by
  intro p' c' d' g1 g2 g3; by_cases e : p' = p ∧ c' = c ∧ d' = d
  · obtain ⟨rfl, rfl, rfl⟩ := e
    rw [atKey_put_same hD (lawS.key (Y1D h1 h2 h3))]
    simp
  · have hne : kS p' c' d' ≠ kS p c d := fun q => e (Y5z g1 g2 g3 h1 h2 h3 q)
    rw [atKey_put_other hne, h p' c' d' g1 g2 g3]
    simp [e]
end Go.Proofs.YteopkkoblbmggaaGreat.P
end
section
set_option linter.unusedVariables false
set_option linter.unusedSimpArgs false
namespace Go.Proofs.YteopkkoblbmggaaGreat.P
open Go.RowKit Go.Maps Go.Proofs.YteopkkoblbmggaaGreatW.PrintWords Go.Proofs.YteopkkoblbmggaaGreatW.PrintLast Go.Proofs.YteopkkoblbmggaaGreatW.PrintMore
attribute [local go_sem high] eqA46
theorem Y1k {xs : List S52} {i : Nat} (h : i < xs.length) : Y1 xs (i : Int) = xs[i] := by
  unfold Y1; rw [Int.toNat_natCast, List.getD_eq_getElem?_getD, List.getElem?_eq_getElem h, Option.getD_some]
def fndsE (e : S52) : Bool := !e.f3 && (e.f0.f0 == e.f2.f0 && (e.f0.f1 == e.f2.f1))
def fouB (l : List S52) (p c d : Int) : Bool := l.any (fun e => fndsE e && decide (p = e.f1 ∧ c = e.f2.f0 ∧ d = e.f2.f1))
def okE52 (e : S52) : Prop := okN e.f1 ∧ okN e.f2.f0 ∧ okN e.f2.f1
theorem Y4D (l : List S52) (i : Nat) (h : i < l.length) : (fun p c d => fouB (l.take (i + 1)) p c d) = fun p c d => fouB (l.take i) p c d || (fndsE l[i] && decide (p = l[i].f1 ∧ c = l[i].f2.f0 ∧ d = l[i].f2.f1)) := by
  funext p c d
  unfold fouB; rw [List.take_add_one, List.getElem?_eq_getElem h, List.any_append]
  simp
set_option maxHeartbeats 4000000 in
set_option maxRecDepth 100000 in
theorem Y1Y (A0 : Option Addr) (c0 : Nat) (l0 : List S52) (w : World) (hr0 : Kd.C k52 w A0 l0.length l0) (hc0 : l0.length ≤ c0) (hlen : l0.length ≤ 1000000) (hv : ∀ e ∈ l0, okE52 e) :
    Calls Tryz.prog 39 #[.slice A0 l0.length c0] w fun e w' => ∃ B D, e = .returned (.map (some B)) ∧ World.ownsMap (H := Unit) w' Tryz.prog 67 (plainElem Tryz.prog 4) B l0.length D ∧ SaysB D (fouB l0) ∧ w.heap.size ≤ B ∧ Below w.heap.size w w' := by
  have HR := Y0.mk hr0; have HC := Y0.mk hc0; have HN := Y0.mk hlen; have HV := Y0.mk hv; have HB := Y0.mk (Below.refl w.heap.size w); have hmm := @run_makeMap Tryz.prog; clear hr0 hc0 hlen hv; go_enter Tryz.func39, Tryz.ntmps39
  go_wp2
  go_loopg [9] l0.length (fun kq v9 W => ∃ (i : Nat) (D : DataW Unit), v9 = .int .i64 (i : Int) ∧ Y0 (i + kq = l0.length) ∧ Y0 (World.ownsMap W Tryz.prog 67 (plainElem Tryz.prog 4) w.heap.size i D) ∧ Y0 (SaysB D (fouB (l0.take i))) ∧ Y0 (Below w.heap.size w W))
  case atStart => exact ⟨0, .map [], rfl, ⟨by omega⟩, ⟨World.ownsMap_made _ _ _ _⟩, ⟨fun p c d _ _ _ => rfl⟩, ⟨YA (Below.refl _ _) _⟩⟩
  case round =>
    clear HB; obtain ⟨i, D, rfl, HK, HO, HS, HB⟩ := hrel; cases gk with
    | zero =>
      have hi : i = l0.length := by have := HK.out; omega
      have hlt : decide (i < l0.length) = false := by simp; omega
      have ho := HO.out; have hs := HS.out; rw [hi, List.take_length] at hs; rw [hi] at ho; clear hi HO HS; have HO := Y0.mk ho; have HS := Y0.mk hs; clear ho hs; go_wp2
      go_ret
      exact ⟨_, D, rfl, HO.out, HS.out, Nat.le_refl _, HB.out⟩
    | succ k1 =>
      have hi : i < l0.length := by have := HK.out; omega
      have hlt : decide (i < l0.length) = true := by simp; exact hi
      obtain ⟨ad, e0, hx0, hx1, hx2, hx3, hx4, hx5, hx6, hx7, hx8, hx9, hx10, hx11, hx12⟩ := Y12 HR.out (i : Int) (by omega) (by omega); cases e0
      rw [Int.toNat_natCast] at hx0 hx1 hx2 hx3 hx4 hx5 hx6 hx7 hx8 hx9 hx10 hx11 hx12; rw [Y1k hi] at hx0 hx1 hx2 hx3 hx4 hx5 hx6 hx7 hx8 hx9 hx10 hx11 hx12; replace hx0 := (HB.out.cell (World.block_lt_of_cell? w _ hx0)).trans hx0; replace hx1 := (HB.out.cell (World.block_lt_of_cell? w _ hx1)).trans hx1; replace hx2 := (HB.out.cell (World.block_lt_of_cell? w _ hx2)).trans hx2; replace hx3 := (HB.out.cell (World.block_lt_of_cell? w _ hx3)).trans hx3; replace hx4 := (HB.out.cell (World.block_lt_of_cell? w _ hx4)).trans hx4; replace hx5 := (HB.out.cell (World.block_lt_of_cell? w _ hx5)).trans hx5; replace hx6 := (HB.out.cell (World.block_lt_of_cell? w _ hx6)).trans hx6; replace hx7 := (HB.out.cell (World.block_lt_of_cell? w _ hx7)).trans hx7; replace hx8 := (HB.out.cell (World.block_lt_of_cell? w _ hx8)).trans hx8; replace hx9 := (HB.out.cell (World.block_lt_of_cell? w _ hx9)).trans hx9; replace hx10 := (HB.out.cell (World.block_lt_of_cell? w _ hx10)).trans hx10; replace hx11 := (HB.out.cell (World.block_lt_of_cell? w _ hx11)).trans hx11; replace hx12 := (HB.out.cell (World.block_lt_of_cell? w _ hx12)).trans hx12; have q0 : (0 ≤ ((i : Nat) : Int)) = True := by simp
      have q1 : (((i : Nat) : Int) < (l0.length : Int)) = True := by simp; exact hi
      have HT := Y0.mk (Y4D l0 i hi); have HE := Y0.mk (HV.out _ (List.getElem_mem hi)); generalize l0[i]'hi = x at hx0 hx1 hx2 hx3 hx4 hx5 hx6 hx7 hx8 hx9 hx10 hx11 hx12 HT HE; have HI := Y0.mk hi; clear hi; go_upto_region 5 with (fail)
      have HB1 : Y0 (Below w.heap.size w (wr.alloc (.cells #[.int .i64 x.f0.f0, .int .i64 x.f0.f1, .int .i64 x.f1, .int .i64 x.f2.f0, .int .i64 x.f2.f1, .bool x.f3, .int .i64 x.f4.f0, .int .i64 x.f4.f1, .int .i64 x.f4.f2, .int .i64 x.f4.f3, .int .i64 x.f4.f4, .int .i64 x.f4.f5, .int .i64 x.f4.f6] 52))) := ⟨YA HB.out _⟩; have HO1 : Y0 (World.ownsMap (H := Unit) (wr.alloc (.cells #[.int .i64 x.f0.f0, .int .i64 x.f0.f1, .int .i64 x.f1, .int .i64 x.f2.f0, .int .i64 x.f2.f1, .bool x.f3, .int .i64 x.f4.f0, .int .i64 x.f4.f1, .int .i64 x.f4.f2, .int .i64 x.f4.f3, .int .i64 x.f4.f4, .int .i64 x.f4.f5, .int .i64 x.f4.f6] 52)) Tryz.prog 67 (plainElem Tryz.prog 4) w.heap.size i D) := ⟨HO.out.alloc _⟩; have B5 : Y0 ((wr.alloc (.cells #[.int .i64 x.f0.f0, .int .i64 x.f0.f1, .int .i64 x.f1, .int .i64 x.f2.f0, .int .i64 x.f2.f1, .bool x.f3, .int .i64 x.f4.f0, .int .i64 x.f4.f1, .int .i64 x.f4.f2, .int .i64 x.f4.f3, .int .i64 x.f4.f4, .int .i64 x.f4.f5, .int .i64 x.f4.f6] 52)).heap[wr.heap.size]? = some (.cells #[.int .i64 x.f0.f0, .int .i64 x.f0.f1, .int .i64 x.f1, .int .i64 x.f2.f0, .int .i64 x.f2.f1, .bool x.f3, .int .i64 x.f4.f0, .int .i64 x.f4.f1, .int .i64 x.f4.f2, .int .i64 x.f4.f3, .int .i64 x.f4.f4, .int .i64 x.f4.f5, .int .i64 x.f4.f6] 52 (0, 0))) := ⟨Y1w _ _⟩; generalize (wr.alloc (.cells #[.int .i64 x.f0.f0, .int .i64 x.f0.f1, .int .i64 x.f1, .int .i64 x.f2.f0, .int .i64 x.f2.f1, .bool x.f3, .int .i64 x.f4.f0, .int .i64 x.f4.f1, .int .i64 x.f4.f2, .int .i64 x.f4.f3, .int .i64 x.f4.f4, .int .i64 x.f4.f5, .int .i64 x.f4.f6] 52)) = W1 at HB1 HO1 B5 ⊢; generalize wr.heap.size = g5 at B5 ⊢; clear HO HB hx0 hx1 hx2 hx3 hx4 hx5 hx6 hx7 hx8 hx9 hx10 hx11 hx12; have hc5 := Y2 B5.out
      have skip_ : fndsE x = false → SaysB D (fouB (l0.take (i + 1))) := fun e => by
        have h := HT.out; rw [e] at h; simp only [Bool.false_and, Bool.or_false] at h; have h2 := HS.out; unfold SaysB at h2 ⊢; intro p c d g1 g2 g3; rw [h2 p c d g1 g2 g3, congrFun (congrFun (congrFun h p) c) d]
      have HSK := Y0.mk skip_; clear skip_; by_cases c0_ : x.f3 = true
      · have hf : fndsE x = false := by unfold fndsE; rw [c0_]; rfl
        have HF := Y0.mk hf; clear hf; go_wp2
        go_roundg k1
        case measure => have := HK.out; omega
        case rel => exact ⟨i + 1, D, by first | (simp; done) | (simp; unfold wrap64; have := HN.out; have := HI.out; omega), ⟨by have := HK.out; omega⟩, ⟨HO1.out.mono (Nat.le_succ _)⟩, ⟨HSK.out HF.out⟩, HB1⟩
      · have c0b : x.f3 = false := Bool.eq_false_iff.mpr c0_
        clear c0_; by_cases c1_ : x.f0.f0 = x.f2.f0
        · have b1_ : (x.f0.f0 == x.f2.f0) = true := beq_iff_eq.mpr c1_
          by_cases c2_ : x.f0.f1 = x.f2.f1
          · have b2_ : (x.f0.f1 == x.f2.f1) = true := beq_iff_eq.mpr c2_
            have hf : fndsE x = true := by unfold fndsE; rw [c0b, b1_, b2_]; rfl
            have hput := Y51 HS.out HO1.out.isMap HE.out.1 HE.out.2.1 HE.out.2.2
            have HP : Y0 (SaysB (D.put (kS x.f1 x.f2.f0 x.f2.f1) (.lit (.bool true))) (fouB (l0.take (i + 1)))) := ⟨by
              have h := HT.out; rw [hf] at h; simp only [Bool.true_and] at h; intro p c d g1 g2 g3
              rw [hput p c d g1 g2 g3, congrFun (congrFun (congrFun h p) c) d]⟩
            clear hput hf c1_ c2_; go_wp2_with (first | (at_mapUpdate; refine wpList_mapUpdate_own _ rfl _ _ _ 73 rfl 67 4 lawS Tryz.underlying73 _ w.heap.size i D rfl HO1.out (by unfold maxLen; have := HN.out; have := HI.out; omega) _ _ _ rfl rfl (Y1D HE.out.1 HE.out.2.1 HE.out.2.2) _ [] (plainElem_bool Tryz.underlying4 true) ?_; intro w1 hown1 hgrow1; have HO2 := Y0.mk hown1; have HB2 := Y0.mk (HB1.out.grown hgrow1 (Ym HB1.out) (fun j hj => by cases hj; exact Nat.le_refl _)); clear hown1 hgrow1))
            go_roundg k1
            case measure => have := HK.out; omega
            case rel => exact ⟨i + 1, _, by first | (simp; done) | (simp; unfold wrap64; have := HN.out; have := HI.out; omega), ⟨by have := HK.out; omega⟩, HO2, HP, HB2⟩
          · have b2_ : (x.f0.f1 == x.f2.f1) = false := beq_eq_false_iff_ne.mpr c2_
            have hf : fndsE x = false := by unfold fndsE; rw [b2_, Bool.and_false, Bool.and_false]
            have HF := Y0.mk hf; clear hf c1_ c2_; go_wp2
            go_roundg k1
            case measure => have := HK.out; omega
            case rel => exact ⟨i + 1, D, by first | (simp; done) | (simp; unfold wrap64; have := HN.out; have := HI.out; omega), ⟨by have := HK.out; omega⟩, ⟨HO1.out.mono (Nat.le_succ _)⟩, ⟨HSK.out HF.out⟩, HB1⟩
        · have b1_ : (x.f0.f0 == x.f2.f0) = false := beq_eq_false_iff_ne.mpr c1_
          have hf : fndsE x = false := by unfold fndsE; rw [b1_, Bool.false_and, Bool.and_false]
          have HF := Y0.mk hf; clear hf c1_; go_wp2
          go_roundg k1
          case measure => have := HK.out; omega
          case rel => exact ⟨i + 1, D, by first | (simp; done) | (simp; unfold wrap64; have := HN.out; have := HI.out; omega), ⟨by have := HK.out; omega⟩, ⟨HO1.out.mono (Nat.le_succ _)⟩, ⟨HSK.out HF.out⟩, HB1⟩
end Go.Proofs.YteopkkoblbmggaaGreat.P
end
section
set_option linter.unusedVariables false
namespace Go.Proofs.YteopkkoblbmggaaGreat.P
open Go
theorem Y1Q {P : Program} (w : World) (dT sT ty elem : TypeId) (g o dLen dCap : Nat) (a : Addr) (sLen sCap sz : Nat) (cur : Array Value) (t : TypeId) (cs : List Value)
    (hu : P.underlying dT = some (.slice elem)) (hs : (P.info? elem).map (·.size) = some sz)
    (hg : w.heap[g]? = some (.cells cur t (0, 0))) (hn : cs.length = Nat.min sLen dLen * sz)
    (hsrc : ∀ j v, cs[j]? = some v → w.cell? (a.add j) = some v) (hfit : o + cs.length ≤ cur.size) (h1 : ∀ v ∈ cs, v.oneCell' = true) :
    (Builtin.copy_ #[dT, sT] ty #[.slice (some ⟨g, o, none⟩) dLen dCap, .slice (some a) sLen sCap]).run P w =
      .ok (goInt (Nat.min sLen dLen)) (w.setRow g (cur.toList.take o ++ cs ++ cur.toList.drop (o + cs.length)).toArray) := by
  have hl := run_loadCells_list (P := P) w a cs hsrc; have hst := run_storeCells_at P g o t cs 0 cur w hg (by simpa using hfit) h1; cases hq : P.info? elem with
  | none => simp [hq] at hs
  | some i =>
    have hi : i.size = sz := by simpa [hq] using hs
    simp [Builtin.copy_, run_underlying hu, Builtin.lenOf, Builtin.firstCells, sizeOf, typeInfo, hq, hi, ← hn, hl, hst]
end Go.Proofs.YteopkkoblbmggaaGreat.P
end
section
set_option linter.unusedVariables false
set_option linter.unusedSimpArgs false
namespace Go.Proofs.YteopkkoblbmggaaGreat.P
open Go.RowKit Go.Lib Go.Proofs.YteopkkoblbmggaaGreatW.PrintWords Go.Proofs.YteopkkoblbmggaaGreatW.PrintLast Go.Proofs.YteopkkoblbmggaaGreatW.PrintMore
theorem Y6a (w : World) : (Go.sizeOf 52).run Tryz.prog w = .ok 13 w := by kernel_rfl
theorem Y39 : (Tryz.prog.info? 52).map (·.size) = some 13 := by kernel_rfl
set_option maxHeartbeats 8000000 in
set_option maxRecDepth 100000 in
theorem Y4H (g cap n i vb : Nat) (cur : Array Value) (ec : List Value) (w : World) (hi : i < n) (hroom : n + 1 ≤ cap) (hc63 : cap ≤ 9223372036854775807) (hn : n ≤ 1000000)
    (hg : w.heap[g]? = some (.cells cur 52 (0, 0))) (hsz : cur.size = cap * 13) (hv : w.heap[vb]? = some (.cells ec.toArray 52 (0, 0))) (hec : ec.length = 13) (hne : vb ≠ g)
    (mid : List Value) (hmid : mid = (cur.toList.take (n * 13)).drop (i * 13)) (R1 R2 : Array Value) (hR1 : R1 = (cur.toList.take ((i + 1) * 13) ++ mid ++ cur.toList.drop ((i + 1) * 13 + mid.length)).toArray)
    (hR2 : R2 = (R1.toList.take (i * 13) ++ ec ++ R1.toList.drop (i * 13 + ec.length)).toArray)
    (h1c : ∀ v ∈ mid, v.oneCell' = true) (h1v : ∀ v ∈ ec, v.oneCell' = true) :
    Calls Tryz.prog 41 #[.slice (some ⟨g, 0, none⟩) n cap, .int .i64 i, .slice (some ⟨vb, 0, none⟩) 1 1] w fun e w' =>
      e = .returned (.slice (some ⟨g, 0, none⟩) (n + 1) cap) ∧ w' = (w.drew.setRow g R1).setRow g R2 := by
  have hus := Tryz.underlying22; have hz2 : ¬ ((i : Int) = (n : Int)) := by omega
  have hml : mid.length = (n - i) * 13 := by rw [hmid, List.length_drop, List.length_take, Array.length_toList, hsz]; omega
  have hov : ∀ o lb cb, (callFunc 55 #[.slice (some ⟨vb, 0, none⟩) 1 1, .slice (some ⟨g, o, none⟩) lb cb]).run Tryz.prog w = .ok (.value (.bool false)) w := fun o lb cb => by
    rw [run_callFunc_extern Tryz.func55 (by kernel_rfl) (by kernel_rfl) (by kernel_rfl) (e := Extern.SlicesOverlaps.overlaps #[22, 22] #[4]) (by kernel_rfl),
      Lib.run_overlaps_apart w 22 4 52 hus 13 Y6a ⟨vb, 0, none⟩ ⟨g, o, none⟩ 1 1 lb cb hne 52 52 ec.toArray.size cur.size (by simp [World.shape?, hv]) (by simp [World.shape?, hg]) (by omega) (Y4 hv 0) (Y4 hv _)]
    rfl
  have hcp1 : ∀ ty dc sc, (Builtin.copy_ #[22, 22] ty #[.slice (some ⟨g, (i + 1) * 13, none⟩) (n - i) dc, .slice (some ⟨g, i * 13, none⟩) (n + 1 - i) sc]).run Tryz.prog w.drew = .ok (goInt ((n - i : Nat) : Int)) (w.drew.setRow g R1) := fun ty dc sc => by
    have h := Y1Q (P := Tryz.prog) w.drew 22 22 ty 52 g ((i + 1) * 13) (n - i) dc ⟨g, i * 13, none⟩ (n + 1 - i) sc 13 cur 52 mid hus Y39 hg (by rw [hml]; simp only [Nat.min_def]; split <;> omega)
      (fun j v hj => by
        rw [Addr.add_lit]; refine (Y2 hg _).trans ?_; rw [hmid, List.getElem?_drop, List.getElem?_take] at hj
        split at hj
        · rw [Array.getElem?_toList] at hj; exact hj
        · cases hj)
      (by rw [hml, hsz]; omega) h1c
    rw [show Nat.min (n + 1 - i) (n - i) = n - i by simp only [Nat.min_def]; split <;> omega, ← hR1] at h; exact h
  have hR1l : R1.size = cur.size := by rw [hR1, List.size_toArray, List.length_append, List.length_append, List.length_take, List.length_drop, Array.length_toList, hml, hsz]; omega
  have hvW : (w.drew.setRow g R1).heap[vb]? = some (.cells ec.toArray 52 (0, 0)) := by
    have : (w.drew.setRow g R1).heap[vb]? = w.heap[vb]? := by
      show (w.heap.modify g _)[vb]? = _
      rw [Array.getElem?_modify, if_neg (Ne.symm hne)]
    rw [this]; exact hv
  have hcp2 : ∀ ty dc, (Builtin.copy_ #[22, 22] ty #[.slice (some ⟨g, i * 13, none⟩) (n + 1 - i) dc, .slice (some ⟨vb, 0, none⟩) 1 1]).run Tryz.prog (w.drew.setRow g R1) = .ok (goInt 1) ((w.drew.setRow g R1).setRow g R2) := fun ty dc => by
    have h := Y1Q (P := Tryz.prog) (w.drew.setRow g R1) 22 22 ty 52 g (i * 13) (n + 1 - i) dc ⟨vb, 0, none⟩ 1 1 13 R1 52 ec hus Y39 (setRow_heap w.drew g cur R1 52 (0, 0) hg) (by rw [hec]; simp only [Nat.min_def]; split <;> omega)
      (fun j v hj => by
        rw [Addr.add_lit]; refine (Y2 hvW _).trans ?_
        rw [Nat.zero_add, List.getElem?_toArray]; exact hj)
      (by rw [hec, hR1l, hsz]; omega) h1v
    rw [show Nat.min 1 (n + 1 - i) = 1 by simp only [Nat.min_def]; split <;> omega, ← hR2] at h; exact h
  have hw1 : IntKind.i64.wrap ((i : Int) + 1) = (i : Int) + 1 := by rw [IntKind.wrap_i64]; omega
  have hw2 : wrap64 ((i : Int) + 1) = (i : Int) + 1 := by unfold wrap64; omega
  have hb1 : (0 : Int) ≤ (i : Int) + 1 := by omega
  have hin : i ≤ n := by omega
  have htn : ((i : Int) + 1).toNat = i + 1 := by omega
  have hb2 : ¬ (cap = i + 1) := by omega
  have hb3 : (i : Int) ≤ (n : Int) + 1 := by omega
  have hb4 : ¬ (cap = i) := by omega
  have hb5 : i ≤ n + 1 := by omega
  clear hmid hR1 hR2 hml hR1l hvW; have mixed : Tryz.prog.follows .mixedOrders = true := by kernel_rfl
  go_enter Tryz.func41, Tryz.ntmps41
  go_wp2_with (simp only [hov])
  go_region_law_o (refine step_copy_runI rfl _ _ 22 22 rfl _ _ (by simp [Act.eval, Act.put]) (by simp [Act.eval, Act.put]) (hcp1 _ _ _) ?_)
  go_wp2_with (at_builtin; refine wpList_copy_runI _ rfl _ _ 22 22 rfl _ _ rfl rfl (hcp2 _ _) ?_)
  go_ret
  exact ⟨rfl, rfl⟩
def z52v : Value := (.agg #[(.int .i64 0), (.int .i64 0), (.int .i64 0), (.int .i64 0), (.int .i64 0), (.bool false), (.int .i64 0), (.int .i64 0), (.int .i64 0), (.int .i64 0), (.int .i64 0), (.int .i64 0), (.int .i64 0)] : Value)
theorem Y3z : z52v.cells.size = 13 := by kernel_rfl
set_option maxHeartbeats 8000000 in
set_option maxRecDepth 100000 in
theorem Y5c (g cap n i vb : Nat) (cur : Array Value) (ec : List Value) (w : World) (hi : i < n) (hnc : n ≤ cap) (hroom : cap < n + 1) (hn : n ≤ 1000000)
    (hg : w.heap[g]? = some (.cells cur 52 (0, 0))) (hsz : cur.size = cap * 13) (hv : w.heap[vb]? = some (.cells ec.toArray 52 (0, 0))) (hec : ec.length = 13)
    (mid : List Value) (hmid : mid = (cur.toList.take (n * 13)).drop (i * 13)) (G : Nat) (hG : G = grownCap w (n + 1) cap 52)
    (ROW R1 R2 : Array Value) (hROW : ROW = (cur.toList.take (i * 13)).toArray ++ Builtin.zeroCells z52v.cells (n + 1 - i) ++ Builtin.zeroCells z52v.cells (G - (n + 1)))
    (hR1 : R1 = (ROW.toList.take (i * 13) ++ ec ++ ROW.toList.drop (i * 13 + ec.length)).toArray) (hR2 : R2 = (R1.toList.take ((i + 1) * 13) ++ mid ++ R1.toList.drop ((i + 1) * 13 + mid.length)).toArray)
    (h1c : ∀ v ∈ mid, v.oneCell' = true) (h1v : ∀ v ∈ ec, v.oneCell' = true) :
    Calls Tryz.prog 41 #[.slice (some ⟨g, 0, none⟩) n cap, .int .i64 i, .slice (some ⟨vb, 0, none⟩) 1 1] w fun e w' =>
      e = .returned (.slice (some ⟨w.heap.size, 0, none⟩) (n + 1) G) ∧ w' = (((w.drew.alloc (.cells ROW 52)).setRow w.heap.size R1).drew).setRow w.heap.size R2 := by
  have HG := Y0.mk hG; clear hG; have hus := Tryz.underlying22; obtain ⟨i0, hi0, hz0, hzs, hzb⟩ := info_parts Y1E; have hz2 : ¬ ((i : Int) = (n : Int)) := by omega
  have hci : ¬ (cap = i) := by omega
  have hw1 : IntKind.i64.wrap ((i : Int) + 1) = (i : Int) + 1 := by rw [IntKind.wrap_i64]; omega
  have hw2 : wrap64 ((i : Int) + 1) = (i : Int) + 1 := by unfold wrap64; omega
  have hb1 : (0 : Int) ≤ (i : Int) + 1 := by omega
  have hin : i ≤ n := by omega
  have htn : ((i : Int) + 1).toNat = i + 1 := by omega
  have hb3 : (i : Int) ≤ (n : Int) := by omega
  have hb5 : i ≤ n + 1 := by omega
  have hb6 : i + 1 ≤ n + 1 := by omega
  have hz3 : (cap : Int) < (n : Int) + 1 := by omega
  have hml : mid.length = (n - i) * 13 := by rw [hmid, List.length_drop, List.length_take, Array.length_toList, hsz]; omega
  have hkk : (n : Int) + 1 - (i : Int) = ((n + 1 - i : Nat) : Int) := by omega
  have hik : i + (n + 1 - i) = n + 1 := by omega
  have hold : (Builtin.firstCells i0.size i (.slice (some ⟨g, 0, none⟩) i cap)).run Tryz.prog w.drew = .ok (cur.toList.take (i * 13)).toArray w.drew := by
    rw [hzs]
    exact run_firstCells_some w.drew 13 i ⟨g, 0, none⟩ i cap (cur.toList.take (i * 13)) (by rw [List.length_take, Array.length_toList, hsz]; omega) (fun j v hj => by
      rw [Addr.add_lit, Nat.zero_add]; refine (Y2 hg _).trans ?_; rw [List.getElem?_take] at hj
      split at hj
      · rw [Array.getElem?_toList] at hj; exact hj
      · cases hj)
  have hrz : ∀ ty, (Builtin.append_ #[22, 3] ty #[.slice (some ⟨g, 0, none⟩) i cap, .int .i64 ((n : Int) + 1 - (i : Int))]).run Tryz.prog w =
      .ok (.slice (some ⟨w.heap.size, 0, none⟩) (n + 1) G) (w.drew.alloc (.cells ROW 52)) := fun ty => by
    have h := Lib.run_append_grow_zeros w 22 3 ty 52 i0 _ .i64 .i64 hus Tryz.underlying3 hi0 hz0 (some ⟨g, 0, none⟩) i cap (cur.toList.take (i * 13)) hold (n + 1 - i) (by omega) (by omega) (by omega) (by omega) (by rw [hzb]; omega) (by rw [hzb, hik]; exact growslice_fits hroom (by omega)); rw [hik, ← HG.out] at h; rw [hkk, hROW]; exact h
  have hgw : g < w.heap.size := Y1e hg; have hvw : vb < w.heap.size := Y1e hv; have hz13 := Y3z; have hGn : n + 1 ≤ G := by rw [HG.out]; exact grownCap_ge w _ _ _
  have hG63 : G ≤ 9223372036854775807 := by
    have := grownCap_le_maxLen w (n + 1) cap 52 (by unfold maxLen; omega); rw [← HG.out] at this; unfold maxLen at this; omega
  have hRs : ROW.size = G * 13 := by
    rw [hROW]; simp only [Array.size_append, Builtin.zeroCells, Array.size_map, Array.size_range, List.size_toArray, List.length_take, Array.length_toList, hz13, hsz]; omega
  have hR1l : R1.size = G * 13 := by rw [hR1, List.size_toArray, List.length_append, List.length_append, List.length_take, List.length_drop, Array.length_toList, hec, hRs]; omega
  have hcpA : ∀ (W : World), W.heap = (w.drew.alloc (.cells ROW 52)).heap → ∀ ty dc, (Builtin.copy_ #[22, 22] ty #[.slice (some ⟨w.heap.size, i * 13, none⟩) (n + 1 - i) dc, .slice (some ⟨vb, 0, none⟩) 1 1]).run Tryz.prog W = .ok (goInt 1) (W.setRow w.heap.size R1) := fun W hW ty dc => by
    have hWn : W.heap[w.heap.size]? = some (.cells ROW 52 (0, 0)) := by rw [hW]; exact Y1w w.drew _
    have hWv : W.heap[vb]? = some (.cells ec.toArray 52 (0, 0)) := by rw [hW]; exact Y8 (w := w.drew) hv _
    have h := Y1Q (P := Tryz.prog) W 22 22 ty 52 w.heap.size (i * 13) (n + 1 - i) dc ⟨vb, 0, none⟩ 1 1 13 ROW 52 ec hus Y39 hWn (by rw [hec]; simp only [Nat.min_def]; split <;> omega)
      (fun j v hj => by
        rw [Addr.add_lit]; refine (Y2 hWv _).trans ?_
        rw [Nat.zero_add, List.getElem?_toArray]; exact hj)
      (by rw [hec, hRs]; omega) h1v
    rw [show Nat.min 1 (n + 1 - i) = 1 by simp only [Nat.min_def]; split <;> omega, ← hR1] at h; exact h
  have hcpB : ∀ (W : World), W.heap = ((w.drew.alloc (.cells ROW 52)).setRow w.heap.size R1).heap → ∀ ty dc sc, (Builtin.copy_ #[22, 22] ty #[.slice (some ⟨w.heap.size, (i + 1) * 13, none⟩) (n - i) dc, .slice (some ⟨g, i * 13, none⟩) (n - i) sc]).run Tryz.prog W = .ok (goInt ((n - i : Nat) : Int)) (W.setRow w.heap.size R2) := fun W hW ty dc sc => by
    have hWn : W.heap[w.heap.size]? = some (.cells R1 52 (0, 0)) := by rw [hW]; exact setRow_heap (w.drew.alloc (.cells ROW 52)) w.heap.size ROW R1 52 (0, 0) (Y1w w.drew _)
    have hWg : W.heap[g]? = some (.cells cur 52 (0, 0)) := by
      rw [hW]
      show ((w.drew.alloc (.cells ROW 52)).heap.modify w.heap.size _)[g]? = _
      rw [Array.getElem?_modify, if_neg (by omega)]; exact Y8 (w := w.drew) hg _
    have h := Y1Q (P := Tryz.prog) W 22 22 ty 52 w.heap.size ((i + 1) * 13) (n - i) dc ⟨g, i * 13, none⟩ (n - i) sc 13 R1 52 mid hus Y39 hWn (by rw [hml]; simp only [Nat.min_def]; split <;> omega)
      (fun j v hj => by
        rw [Addr.add_lit]; refine (Y2 hWg _).trans ?_; rw [hmid, List.getElem?_drop, List.getElem?_take] at hj
        split at hj
        · rw [Array.getElem?_toList] at hj; exact hj
        · cases hj)
      (by rw [hml, hR1l]; omega) h1c
    rw [show Nat.min (n - i) (n - i) = n - i by simp only [Nat.min_def]; split <;> omega, ← hR2] at h; exact h
  have hGi : ¬ (G = i) := by omega
  have hGim : ¬ (G = i + 1) := by omega
  have hcA := hcpA ((w.alloc (.cells ROW 52)).drew) rfl; have hcB := hcpB ((((w.alloc (.cells ROW 52)).drew).setRow w.heap.size R1).drew) rfl; clear hcpA hcpB; clear hkk hik hold hROW HG hRs hR1l hR1 hR2 hmid hml hz13 hi0 hz0 hzs hzb; have mixed : Tryz.prog.follows .mixedOrders = true := by kernel_rfl
  go_enter Tryz.func41, Tryz.ntmps41
  go_wp2_with (first
    | (at_builtin; refine Lib.wpList_append_run _ rfl _ _ _ _ rfl _ _ rfl rfl _ _ (hrz _) ?_))
  go_region_law_o (refine step_copy_runI rfl _ _ 22 22 rfl (.slice (some ⟨w.heap.size, (i + 1) * 13, none⟩) (n - i) (G - (i + 1))) (.slice (some ⟨g, i * 13, none⟩) (n - i) (cap - i)) (by simp [Act.eval, Act.put]) (by simp [Act.eval, Act.put]) (hcB 3 (G - (i + 1)) (cap - i)) ?_)
  go_wp2
  go_ret
  exact ⟨rfl, rfl⟩
end Go.Proofs.YteopkkoblbmggaaGreat.P
end

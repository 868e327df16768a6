/- Texts of this claim in one: VP61, VP84, VRange; no condition. -/
import Derived.Test.YteopkkoblbmggaaQAC
import Derived.Test.YteopkkoblbmggaaQAE
import Derived.Test.YteopkkoblbmggaaQAI
import Derived.Test.YteopkkoblbmggaaQAH
import Derived.RangeFuncNested
import Derived.RangeFuncBox
import Derived.RangeFuncCalls
section
namespace Go.Proofs.Yteopkkoblbmggaa.P
open Go.RowKit Go.Proofs.YteopkkoblbmggaaW.PrintWords Go.Proofs.YteopkkoblbmggaaW.PrintLast Go.Proofs.YteopkkoblbmggaaW.PrintMore
attribute [local go_sem] Y11 Y13 Y19 Y1a YR YS Y12 Y14
set_option linter.unusedVariables false
set_option linter.unusedSimpArgs false
mutual
def Yq.j1 : Nat → List Int → Int → Option (Int × Int × Int)
 | 0, _, _ => none
 | k + 1, x0, x5 => Yq.l0 k x0 x5 0 x5 0
def Yq.l0 : Nat → List Int → Int → Int → Int → Int → Option (Int × Int × Int)
 | 0, _, _, _, _, _ => none
 | k + 1, x0, x5, x6, x37, x38 => if x38 < x37 then (if 0 ≤ x38 then (if x38 < (x0.length : Int) then (if 0 ≤ (wrap64 (7 * x38)) then (Yq.l0 k x0 x5 (Go.bits .or .u64 x6 (shl .u64 (IntKind.u64.wrap (Go.bits .and .u8 (rd x0 x38) 127)) (wrap64 (7 * x38)))) x37 (wrap64 (x38 + 1))) else (none)) else (none)) else (none)) else (if (Go.bits .and .u64 x6 1) = 1 then (some (wrap64 (Go.bits .xor .u64 18446744073709551615 (x6 / 2)), x5, 0)) else (some (wrap64 (x6 / 2), x5, 0)))
def Yq.j0 : Nat → List Int → Int → Bool → Option (Int × Int × Int)
 | 0, _, _, _ => none
 | k + 1, x0, x5, x13 => if x13 = true then (some (0, 0, 12)) else (if x5 > 1 then (if 0 ≤ (wrap64 (x5 - 1)) then (if (wrap64 (x5 - 1)) < (x0.length : Int) then (if (rd x0 (wrap64 (x5 - 1))) = 0 then (some (0, 0, 2)) else (Yq.j1 k x0 x5)) else (none)) else (none)) else (Yq.j1 k x0 x5))
end
def Yq.f (k : Nat) (l0 : List Int) : Option (Int × Int × Int) := (YQ.f k l0).bind fun t_0 => (if t_0 = 0 then (some (0, 0, 13)) else (if t_0 > 10 then (Yq.j0 k l0 t_0 true) else (if t_0 = 10 then (if 9 < (l0.length : Int) then (Yq.j0 k l0 t_0 (decide ((rd l0 9) > 1))) else (none)) else (Yq.j0 k l0 t_0 false))))
theorem Yq.mono_l : ∀ k, (∀ y0 y1, LeO (Yq.j1 k y0 y1) (Yq.j1 (k + 1) y0 y1)) ∧ (∀ y0 y1 y2 y3 y4, LeO (Yq.l0 k y0 y1 y2 y3 y4) (Yq.l0 (k + 1) y0 y1 y2 y3 y4)) ∧ (∀ y0 y1 y2, LeO (Yq.j0 k y0 y1 y2) (Yq.j0 (k + 1) y0 y1 y2))
 | 0 => ⟨fun _ _ r h => by simp [Yq.j1] at h, fun _ _ _ _ _ r h => by simp [Yq.l0] at h, fun _ _ _ r h => by simp [Yq.j0] at h⟩
 | k + 1 => by
  obtain ⟨ih0, ih1, ih2⟩ := Yq.mono_l k
  refine ⟨?_, ?_, ?_⟩
  ·intro y0 y1
   unfold Yq.j1
   repeat' first
   | (with_reducible exact ih0 _ _)
   | (with_reducible exact ih1 _ _ _ _ _)
   | (with_reducible exact ih2 _ _ _)
   | (with_reducible exact YQ.mono _ _)
   | (with_reducible exact LeO.refl _)
   | (with_reducible exact LeO.none _)
   | (with_reducible refine LeO.ite ?_ ?_)
   | (with_reducible refine LeO.bind ?_ (fun _ => ?_))
  ·intro y0 y1 y2 y3 y4
   unfold Yq.l0
   repeat' first
   | (with_reducible exact ih0 _ _)
   | (with_reducible exact ih1 _ _ _ _ _)
   | (with_reducible exact ih2 _ _ _)
   | (with_reducible exact YQ.mono _ _)
   | (with_reducible exact LeO.refl _)
   | (with_reducible exact LeO.none _)
   | (with_reducible refine LeO.ite ?_ ?_)
   | (with_reducible refine LeO.bind ?_ (fun _ => ?_))
  ·intro y0 y1 y2
   unfold Yq.j0
   repeat' first
   | (with_reducible exact ih0 _ _)
   | (with_reducible exact ih1 _ _ _ _ _)
   | (with_reducible exact ih2 _ _ _)
   | (with_reducible exact YQ.mono _ _)
   | (with_reducible exact LeO.refl _)
   | (with_reducible exact LeO.none _)
   | (with_reducible refine LeO.ite ?_ ?_)
   | (with_reducible refine LeO.bind ?_ (fun _ => ?_))
theorem Yq.mono : ∀ a0 k, LeO (Yq.f k a0) (Yq.f (k + 1) a0) := by
 intro a0 k
 obtain ⟨ih0, ih1, ih2⟩ := Yq.mono_l k
 unfold Yq.f
 repeat' first
   | (with_reducible exact ih0 _ _)
   | (with_reducible exact ih1 _ _ _ _ _)
   | (with_reducible exact ih2 _ _ _)
   | (with_reducible exact YQ.mono _ _)
   | (with_reducible exact LeO.refl _)
   | (with_reducible exact LeO.none _)
   | (with_reducible refine LeO.ite ?_ ?_)
   | (with_reducible refine LeO.bind ?_ (fun _ => ?_))
set_option maxHeartbeats 8000000 in
set_option maxRecDepth 100000 in
theorem Yq.calls (k : Nat) (A0 : Option Addr) (c0 : Nat) (l0 : List Int) (r1 : Int) (r2 : Int) (r3 : Int) (w : World) (hr0 : Kd.C (Kd.int .u8) w A0 l0.length l0) (hc0 : l0.length ≤ c0) (h : Yq.f k l0 = some (r1, r2, r3)) :
  Calls Try.prog 148 #[.slice A0 l0.length c0] w fun e w' => e = .returned (.tuple #[.int .i64 r1, .int .i64 r2, .int .i64 r3]) ∧ Drawn0 w w' := by
 have HR0 := Y0.mk hr0
 have HC0 := Y0.mk hc0
 clear hr0 hc0
 have H : ((YQ.f k l0).bind fun t_0 => (if t_0 = 0 then (some (0, 0, 13)) else (if t_0 > 10 then (Yq.j0 k l0 t_0 true) else (if t_0 = 10 then (if 9 < (l0.length : Int) then (Yq.j0 k l0 t_0 (decide ((rd l0 9) > 1))) else (none)) else (Yq.j0 k l0 t_0 false))))) = some (r1, r2, r3) := h
 clear h
 obtain ⟨t_0, A20, H⟩ := bS H
 try dsimp only at H
 have A2 := Y0.mk A20
 clear A20
 have HC3 := Y0.mk H
 clear H
 go_enter Try.func148, Try.ntmps148
 go_upto_block 0 with (first | ((with_reducible refine Y8 (f := 171) rfl ?_); refine goesA (some 9) Try.func171 #[.slice A0 l0.length c0] ?_; (with_reducible refine (YQ.calls k _ _ l0 t_0 _ ?side1 ?side2 A2.out).mono ?_); (case side1 => repeat (first | exact HR0.out | (with_reducible refine Kd.C_alloc ?_ _) | (with_reducible refine Kd.C_drewN ?_ _) | (with_reducible refine Kd.C_drew ?_))); (case side2 => exact HC0.out); rintro e w' ⟨rfl, ⟨nd, rfl⟩⟩; refine ⟨_, rfl, ?_⟩))
 (try simp only [Act.put, List.setIfInBounds_toArray, List.set_cons_zero, List.set_cons_succ])
 go_cut [] (fun wc => ∃ (kq : Nat), Y0 (Yq.j1 kq l0 t_0 = some (r1, r2, r3)) ∧ Y0 (kq ≤ k) ∧ Drawn0 w wc)
 case first =>
  have H := HC3.out
  clear HC3
  by_cases c4 : t_0 = 0
  ·rw [if_pos c4] at H
   have c4b0 := bqT c4
   have c4b1 := bnF c4
   clear c4
   (first | rw [c4b0] | (simp only [i64_w, i32_w]; rw [c4b0]) | skip)
   simp only [Option.some.injEq, Prod.mk.injEq] at H
   obtain ⟨rfl, rfl, rfl⟩ := H
   go_wp2
   go_ret3
   exact ⟨reS, dS⟩
  ·rw [if_neg c4] at H
   have c4b0 := bqF c4
   have c4b1 := bnT c4
   (first | rw [c4b0] | (simp only [i64_w, i32_w]; rw [c4b0]) | skip)
   have HC5 := Y0.mk H
   clear H
   go_upto_region 4 with (fail)
   go_cut [13] (fun v13 wc => ∃ (kq : Nat) (x13_4 : Bool), v13 = .bool x13_4 ∧ Y0 (Yq.j0 kq l0 t_0 x13_4 = some (r1, r2, r3)) ∧ Y0 (kq ≤ k) ∧ Drawn0 w wc)
   case first =>
    have H := HC5.out
    clear HC5
    by_cases c6 : t_0 > 10
    ·rw [if_pos c6] at H
     have c6b0 := decide_eq_true c6
     clear c6
     (first | rw [c6b0] | (simp only [i64_w, i32_w]; rw [c6b0]) | skip)
     have H' := Y0.mk H
     clear H
     go_wp2
     go_meet
     case rel => exact ⟨_, (true), reS, H', ⟨by first | omega | exact Nat.le_refl _⟩, dS⟩
    ·rw [if_neg c6] at H
     have c6b0 := decide_eq_false c6
     clear c6
     (first | rw [c6b0] | (simp only [i64_w, i32_w]; rw [c6b0]) | skip)
     by_cases c7 : t_0 = 10
     ·rw [if_pos c7] at H
      have c7b0 := bqT c7
      have c7b1 := bnF c7
      clear c7
      obtain ⟨c8, H⟩ := iS H
      have c8b0 := decide_eq_true c8
      have c8b1 : decide (9 < l0.length) = true := decide_eq_true (by omega)
      clear c8
      have H' := Y0.mk H
      clear H
      have p1097 : 0 ≤ (9 : Int) := (by omega)
      have q1097 : 9 < (l0.length : Int) := of_decide_eq_true (by first | (with_reducible assumption) | assumption)
      obtain ⟨d_2, e1097, m_0⟩ := Kd.at_int HR0.out 9 p1097 q1097
      cases e1097
      (try simp only [show (9 : Int).toNat = 9 from rfl, Nat.reduceMul, Nat.reduceEqDiff, Go.Addr.add, ↓reduceIte] at m_0)
      have qi1097 : (9 < l0.length) = True := eq_true (by omega)
      (try rw [show ((9 : Int)).toNat = 9 from rfl] at m_0)
      replace p1097 := eq_true p1097
      replace q1097 := eq_true q1097
      go_wp2
      go_meet
      case rel => exact ⟨_, (decide ((rd l0 9) > 1)), reS, H', ⟨by first | omega | exact Nat.le_refl _⟩, dS⟩
     ·rw [if_neg c7] at H
      have c7b0 := bqF c7
      have c7b1 := bnT c7
      have H' := Y0.mk H
      clear H
      go_wp2
      go_meet
      case rel => exact ⟨_, (false), reS, H', ⟨by first | omega | exact Nat.le_refl _⟩, dS⟩
   case rest =>
    clear HC5
    try clear c1
    try clear p1
    try clear q1
    try clear hx1
    try clear qi1
    try clear p2
    try clear c4
    try clear c4b0
    try clear c4b1
    try clear c6
    try clear c6b0
    try clear c7
    try clear c7b0
    try clear c7b1
    try clear c8
    try clear c8b0
    try clear c8b1
    try clear m_0
    try clear p1097
    try clear q1097
    obtain ⟨kq, x13_4, rfl, HA, HJ4, ⟨mc4, rfl⟩⟩ := hcut
    cases kq with
    | zero => exact absurd HA.out (by simp [Yq.j0])
    | succ kj4 =>
     have H := HA.out
     clear HA
     simp only [Yq.j0] at H
     by_cases c9 : x13_4 = true
     ·subst c9
      have H1 : (some (0, 0, 12)) = some (r1, r2, r3) := by rw [if_pos rfl] at H; exact H
      clear H
      have H := H1
      clear H1
      simp only [Option.some.injEq, Prod.mk.injEq] at H
      obtain ⟨rfl, rfl, rfl⟩ := H
      go_wp2
      go_ret3
      exact ⟨reS, dS⟩
     ·replace c9 := Bool.eq_false_iff.mpr c9
      subst c9
      rw [if_neg (show ¬ (false = true) by decide)] at H
      by_cases c10 : t_0 > 1
      ·rw [if_pos c10] at H
       have c10b0 := decide_eq_true c10
       clear c10
       obtain ⟨ji11, hji11⟩ : ∃ j_ : Int, (wrap64 (t_0 - 1)) = j_ := ⟨_, rfl⟩
       replace H : (if 0 ≤ (ji11) then (if (ji11) < (l0.length : Int) then (if (rd l0 (ji11)) = 0 then (some (0, 0, 2)) else (Yq.j1 kj4 l0 t_0)) else (none)) else (none)) = some (r1, r2, r3) := by first | (rw [hji11] at H; exact H) | (simp only [hji11] at H ⊢; exact H)
       have hji11w : (IntKind.i64.wrap (t_0 - 1)) = ji11 := (i64_w _).trans hji11
       obtain ⟨c12, H⟩ := iS H
       have c12b0 := decide_eq_true c12
       clear c12
       obtain ⟨c13, H⟩ := iS H
       have c13b0 := decide_eq_true c13
       clear c13
       by_cases c14 : (rd l0 (ji11)) = 0
       ·rw [if_pos c14] at H
        have c14b0 := bqT c14
        have c14b1 := bnF c14
        clear c14
        simp only [Option.some.injEq, Prod.mk.injEq] at H
        obtain ⟨rfl, rfl, rfl⟩ := H
        have p1098 : 0 ≤ ((ji11) : Int) := of_decide_eq_true (by first | (with_reducible assumption) | assumption)
        have q1098 : (ji11) < (l0.length : Int) := of_decide_eq_true (by first | (with_reducible assumption) | assumption)
        obtain ⟨d_0, e1098, m_1⟩ := Kd.at_int HR0.out (ji11) p1098 q1098
        cases e1098
        replace p1098 := eq_true p1098
        replace q1098 := eq_true q1098
        go_wp2
        go_ret3
        exact ⟨by first | rfl | (simp; done) | (simp only [← hji11] <;> (first | rfl | simp)) | (simp [*]; done), dS⟩
       ·rw [if_neg c14] at H
        have c14b0 := bqF c14
        have c14b1 := bnT c14
        have H' := Y0.mk H
        clear H
        have p1098 : 0 ≤ ((ji11) : Int) := of_decide_eq_true (by first | (with_reducible assumption) | assumption)
        have q1098 : (ji11) < (l0.length : Int) := of_decide_eq_true (by first | (with_reducible assumption) | assumption)
        obtain ⟨d_0, e1098, m_1⟩ := Kd.at_int HR0.out (ji11) p1098 q1098
        cases e1098
        replace p1098 := eq_true p1098
        replace q1098 := eq_true q1098
        go_wp2
        go_meet
        case rel => exact ⟨_, H', ⟨by have := HJ4.out; first | omega | exact Nat.le_refl _⟩, dS⟩
      ·rw [if_neg c10] at H
       have c10b0 := decide_eq_false c10
       clear c10
       have H' := Y0.mk H
       clear H
       go_wp2
       go_meet
       case rel => exact ⟨_, H', ⟨by have := HJ4.out; first | omega | exact Nat.le_refl _⟩, dS⟩
 case rest =>
  clear HC3
  try clear c1
  try clear p1
  try clear q1
  try clear hx1
  try clear qi1
  try clear p2
  try clear c4
  try clear c4b0
  try clear c4b1
  try clear c6
  try clear c6b0
  try clear p6
  try clear c7
  try clear c7b0
  try clear c7b1
  try clear c8
  try clear c8b0
  try clear c8b1
  try clear c9
  try clear c10
  try clear c10b0
  try clear p10
  try clear q10
  try clear hx10
  try clear qi10
  try clear c12
  try clear c12b0
  try clear c13
  try clear c13b0
  try clear c14
  try clear c14b0
  try clear c14b1
  try clear m_0
  try clear m_1
  try clear p1
  try clear p1097
  try clear p1098
  try clear p2
  try clear q1
  try clear q1097
  try clear q1098
  obtain ⟨kq, HA, HJ2, ⟨mc2, rfl⟩⟩ := hcut
  cases kq with
  | zero => exact absurd HA.out (by simp [Yq.j1])
  | succ kj2 =>
   have H := HA.out
   clear HA
   simp only [Yq.j1] at H
   have H' := Y0.mk H
   clear H
   go_wp2
   go_loopg [6, 38] kj2 (fun kq v6 v38 w' => ∃ (x6_2 : Int) (x38_2 : Int), v6 = .int .u64 x6_2 ∧ v38 = .int .i64 x38_2 ∧ Y0 (Yq.l0 kq l0 t_0 x6_2 t_0 x38_2 = some (r1, r2, r3)) ∧ Y0 (kq ≤ kj2) ∧ Drawn0 w w')
   case atStart => exact ⟨(0), (0), reS, reS, H', ⟨Nat.le_refl _⟩, dS⟩
   case round =>
    clear H'
    try clear c1
    try clear p1
    try clear q1
    try clear hx1
    try clear qi1
    try clear c2
    try clear p2
    try clear c4
    try clear c4b0
    try clear c4b1
    try clear c6
    try clear c6b0
    try clear p6
    try clear c7
    try clear c7b0
    try clear c7b1
    try clear c8
    try clear c8b0
    try clear c8b1
    try clear c9
    try clear c10
    try clear c10b0
    try clear p10
    try clear q10
    try clear hx10
    try clear qi10
    try clear c12
    try clear c12b0
    try clear c13
    try clear c13b0
    try clear c14
    try clear c14b0
    try clear c14b1
    try clear m_0
    try clear m_1
    try clear p1
    try clear p10
    try clear p1097
    try clear p1098
    try clear p2
    try clear p6
    try clear q1
    try clear q10
    try clear q1097
    try clear q1098
    obtain ⟨x6_2, x38_2, rfl, rfl, HA, HK2, ⟨m2, rfl⟩⟩ := hrel
    cases gk with
    | zero => exact absurd HA.out (by simp [Yq.l0])
    | succ k2 =>
     have H := HA.out
     clear HA
     simp only [Yq.l0] at H
     by_cases c15 : x38_2 < t_0
     ·rw [if_pos c15] at H
      have c15b0 := decide_eq_true c15
      clear c15
      obtain ⟨c16, H⟩ := iS H
      have c16b0 := decide_eq_true c16
      clear c16
      obtain ⟨c17, H⟩ := iS H
      have c17b0 := decide_eq_true c17
      clear c17
      obtain ⟨ji18, hji18⟩ : ∃ j_ : Int, (wrap64 (7 * x38_2)) = j_ := ⟨_, rfl⟩
      replace H : (if 0 ≤ (ji18) then (Yq.l0 k2 l0 t_0 (Go.bits .or .u64 x6_2 (shl .u64 (IntKind.u64.wrap (Go.bits .and .u8 (rd l0 x38_2) 127)) (ji18))) t_0 (wrap64 (x38_2 + 1))) else (none)) = some (r1, r2, r3) := by first | (rw [hji18] at H; exact H) | (simp only [hji18] at H ⊢; exact H)
      have hji18w : (IntKind.i64.wrap (7 * x38_2)) = ji18 := (i64_w _).trans hji18
      obtain ⟨c19, H⟩ := iS H
      have c19b0 := eq_true c19
      have c19b1 := decide_eq_true c19
      clear c19
      obtain ⟨ji20, hji20⟩ : ∃ j_ : Int, (shl .u64 (IntKind.u64.wrap (Go.bits .and .u8 (rd l0 x38_2) 127)) (ji18)) = j_ := ⟨_, rfl⟩
      replace H : (Yq.l0 k2 l0 t_0 (Go.bits .or .u64 x6_2 (ji20)) t_0 (wrap64 (x38_2 + 1))) = some (r1, r2, r3) := by first | (rw [hji20] at H; exact H) | (simp only [hji20] at H ⊢; exact H)
      have hji20_ : (IntKind.u64.wrap ((IntKind.u64.wrap (Go.bits .and .u8 (rd l0 x38_2) 127)) * 2 ^ min (ji18).toNat 64)) = ji20 := hji20
      have hji20z : (ji18) ≤ 64 → (IntKind.u64.wrap ((IntKind.u64.wrap (Go.bits .and .u8 (rd l0 x38_2) 127)) * 2 ^ (ji18).toNat)) = ji20 := Y3F hji20
      have H' := Y0.mk H
      clear H
      have p1099 : 0 ≤ (x38_2 : Int) := of_decide_eq_true (by first | (with_reducible assumption) | assumption)
      have q1099 : x38_2 < (l0.length : Int) := of_decide_eq_true (by first | (with_reducible assumption) | assumption)
      obtain ⟨d_1, e1099, m_2⟩ := Kd.at_int HR0.out x38_2 p1099 q1099
      cases e1099
      replace p1099 := eq_true p1099
      replace q1099 := eq_true q1099
      go_wp2
      go_roundg k2
      case measure => have := HJ2.out; have := HK2.out; omega
      case rel => exact ⟨(Go.bits .or .u64 x6_2 (ji20)), (wrap64 (x38_2 + 1)), (by first | rfl | (simp; done) | (simp only [← hji20] <;> (first | rfl | simp)) | (simp [*]; done)), reS, H', ⟨by have := HJ2.out; have := HK2.out; omega⟩, dS⟩
     ·rw [if_neg c15] at H
      have c15b0 := decide_eq_false c15
      clear c15
      by_cases c21 : (Go.bits .and .u64 x6_2 1) = 1
      ·rw [if_pos c21] at H
       have c21b0 := bqT c21
       have c21b1 := bnF c21
       clear c21
       simp only [Option.some.injEq, Prod.mk.injEq] at H
       obtain ⟨rfl, rfl, rfl⟩ := H
       go_wp2
       go_ret3
       exact ⟨reS, dS⟩
      ·rw [if_neg c21] at H
       have c21b0 := bqF c21
       have c21b1 := bnT c21
       simp only [Option.some.injEq, Prod.mk.injEq] at H
       obtain ⟨rfl, rfl, rfl⟩ := H
       go_wp2
       go_ret3
       exact ⟨reS, dS⟩
def YY.l0 : Nat → List Int → Int → Int → Int → Int → Option (List Int × Int × Int)
 | 0, _, _, _, _, _ => none
 | k + 1, x0, x5, x6, x8, x36 => if x36 < 4 then (if 0 ≤ (wrap64 (x6 + x36)) then (if (wrap64 (x6 + x36)) < (x0.length : Int) then (if 0 ≤ (wrap64 (8 * x36)) then (YY.l0 k x0 x5 x6 (Go.bits .or .u32 x8 (shl .u32 ((rd x0 (wrap64 (x6 + x36))) % 4294967296) (wrap64 (8 * x36)))) (wrap64 (x36 + 1))) else (none)) else (none)) else (none)) else (if 0 ≤ (wrap64 (x6 + 4)) then (if (wrap64 (x6 + 4)) ≤ (wrap64 ((wrap64 (x6 + 4)) + x5)) then (if (wrap64 ((wrap64 (x6 + 4)) + x5)) ≤ (x0.length : Int) then ((slices_Clone_byte_byte.f ((x0.take ((wrap64 ((wrap64 (x6 + 4)) + x5)) : Int).toNat).drop ((wrap64 (x6 + 4)) : Int).toNat)).bind fun t_2 => (if 0 ≤ x6 then (if x6 ≤ (x0.length : Int) then ((Y1A.f k (x0.take (x6 : Int).toNat)).bind fun t_3 => ((YB.f k t_3 t_2).bind fun t_4 => (if t_4 = x8 then (some (t_2, wrap64 ((wrap64 (x6 + 4)) + x5), 0)) else (some (([] : List Int), 0, 14))))) else (none)) else (none))) else (none)) else (none)) else (none))
def YY.f (k : Nat) (l0 : List Int) : Option (List Int × Int × Int) := (Yq.f k l0).bind fun b_0 => (if b_0.2.2 = 0 then (if b_0.1 < 0 then (some (([] : List Int), 0, 2)) else (if b_0.1 > 65536 then (some (([] : List Int), 0, 3)) else (if (wrap64 ((l0.length : Int) - b_0.2.1)) < (wrap64 (4 + b_0.1)) then (some (([] : List Int), 0, 13)) else (YY.l0 k l0 b_0.1 b_0.2.1 0 0)))) else (some (([] : List Int), 0, b_0.2.2)))
theorem YY.mono_l : ∀ k, (∀ y0 y1 y2 y3 y4, LeO (YY.l0 k y0 y1 y2 y3 y4) (YY.l0 (k + 1) y0 y1 y2 y3 y4))
 | 0 => fun _ _ _ _ _ r h => by simp [YY.l0] at h
 | k + 1 => by
  have ih0 := YY.mono_l k
  ·intro y0 y1 y2 y3 y4
   unfold YY.l0
   repeat' first
   | (with_reducible exact ih0 _ _ _ _ _)
   | (with_reducible exact YB.mono _ _ _)
   | (with_reducible exact Y1A.mono _ _)
   | (with_reducible exact Yq.mono _ _)
   | (with_reducible exact LeO.refl _)
   | (with_reducible exact LeO.none _)
   | (with_reducible refine LeO.ite ?_ ?_)
   | (with_reducible refine LeO.bind ?_ (fun _ => ?_))
theorem YY.mono : ∀ a0 k, LeO (YY.f k a0) (YY.f (k + 1) a0) := by
 intro a0 k
 have ih0 := YY.mono_l k
 unfold YY.f
 repeat' first
   | (with_reducible exact ih0 _ _ _ _ _)
   | (with_reducible exact YB.mono _ _ _)
   | (with_reducible exact Y1A.mono _ _)
   | (with_reducible exact Yq.mono _ _)
   | (with_reducible exact LeO.refl _)
   | (with_reducible exact LeO.none _)
   | (with_reducible refine LeO.ite ?_ ?_)
   | (with_reducible refine LeO.bind ?_ (fun _ => ?_))
set_option maxHeartbeats 8000000 in
set_option maxRecDepth 100000 in
theorem YY.calls (k : Nat) (A0 : Option Addr) (c0 : Nat) (l0 : List Int) (r1 : List Int) (r2 : Int) (r3 : Int) (w : World) (hr0 : Kd.C (Kd.int .u8) w A0 l0.length l0) (hc0 : l0.length ≤ c0) (h : YY.f k l0 = some (r1, r2, r3)) :
  Calls Try.prog 116 #[.slice A0 l0.length c0] w fun e w' => ∃ v0_ : Value, e = .returned (.tuple #[v0_, .int .i64 r2, .int .i64 r3]) ∧ Kd.R (Kd.int .u8) 5 w' w.heap.size (fun _ => True) v0_ r1 ∧ Below w.heap.size w w' := by
 have HR0 := Y0.mk hr0
 have HC0 := Y0.mk hc0
 clear hr0 hc0
 have HB := Y0.mk (Below.refl w.heap.size w)
 have H : ((Yq.f k l0).bind fun b_0 => (if b_0.2.2 = 0 then (if b_0.1 < 0 then (some (([] : List Int), 0, 2)) else (if b_0.1 > 65536 then (some (([] : List Int), 0, 3)) else (if (wrap64 ((l0.length : Int) - b_0.2.1)) < (wrap64 (4 + b_0.1)) then (some (([] : List Int), 0, 13)) else (YY.l0 k l0 b_0.1 b_0.2.1 0 0)))) else (some (([] : List Int), 0, b_0.2.2)))) = some (r1, r2, r3) := h
 clear h
 obtain ⟨⟨t_1, t_0, t_5⟩, A20, H⟩ := bS H
 try dsimp only at H
 have A2 := Y0.mk A20
 clear A20
 by_cases c3 : t_5 = 0
 ·rw [if_pos c3] at H
  have c3b0 := bqT c3
  have c3b1 := bnF c3
  clear c3
  by_cases c4 : t_1 < 0
  ·rw [if_pos c4] at H
   have c4b0 := decide_eq_true c4
   clear c4
   simp only [Option.some.injEq, Prod.mk.injEq] at H
   obtain ⟨rfl, rfl, rfl⟩ := H
   go_enter Try.func116, Try.ntmps116
   go_wp2_with (first | ((with_reducible refine Y8 (f := 148) rfl ?_); refine goesA (some 14) Try.func148 #[.slice A0 l0.length c0] ?_; (with_reducible refine (Yq.calls k _ _ l0 t_1 t_0 t_5 _ ?side1 ?side2 A2.out).mono ?_); (case side1 => repeat (first | exact HR0.out | (with_reducible refine Kd.C_alloc ?_ _) | (with_reducible refine Kd.C_drewN ?_ _) | (with_reducible refine Kd.C_drew ?_))); (case side2 => exact HC0.out); rintro e w' ⟨rfl, ⟨nd, rfl⟩⟩; refine ⟨_, rfl, ?_⟩))
   go_ret3
   exact ⟨_, reT, by first | exact Kd.R_nil _ _ _ _ _ | exact Kd.N_nil _ _ _ _ _ | exact Kd.V_nil _ _ _ _ _ | exact Kd.Q_nil _ _ _ _ _ | exact Kd.S_nil _ _ _ _ _, hU HB.out⟩
  ·rw [if_neg c4] at H
   have c4b0 := decide_eq_false c4
   clear c4
   by_cases c5 : t_1 > 65536
   ·rw [if_pos c5] at H
    have c5b0 := decide_eq_true c5
    clear c5
    simp only [Option.some.injEq, Prod.mk.injEq] at H
    obtain ⟨rfl, rfl, rfl⟩ := H
    go_enter Try.func116, Try.ntmps116
    go_wp2_with (first | ((with_reducible refine Y8 (f := 148) rfl ?_); refine goesA (some 14) Try.func148 #[.slice A0 l0.length c0] ?_; (with_reducible refine (Yq.calls k _ _ l0 t_1 t_0 t_5 _ ?side1 ?side2 A2.out).mono ?_); (case side1 => repeat (first | exact HR0.out | (with_reducible refine Kd.C_alloc ?_ _) | (with_reducible refine Kd.C_drewN ?_ _) | (with_reducible refine Kd.C_drew ?_))); (case side2 => exact HC0.out); rintro e w' ⟨rfl, ⟨nd, rfl⟩⟩; refine ⟨_, rfl, ?_⟩))
    go_ret3
    exact ⟨_, reT, by first | exact Kd.R_nil _ _ _ _ _ | exact Kd.N_nil _ _ _ _ _ | exact Kd.V_nil _ _ _ _ _ | exact Kd.Q_nil _ _ _ _ _ | exact Kd.S_nil _ _ _ _ _, hU HB.out⟩
   ·rw [if_neg c5] at H
    have c5b0 := decide_eq_false c5
    clear c5
    by_cases c6 : (wrap64 ((l0.length : Int) - t_0)) < (wrap64 (4 + t_1))
    ·rw [if_pos c6] at H
     have c6b0 := decide_eq_true c6
     clear c6
     simp only [Option.some.injEq, Prod.mk.injEq] at H
     obtain ⟨rfl, rfl, rfl⟩ := H
     go_enter Try.func116, Try.ntmps116
     go_wp2_with (first | ((with_reducible refine Y8 (f := 148) rfl ?_); refine goesA (some 14) Try.func148 #[.slice A0 l0.length c0] ?_; (with_reducible refine (Yq.calls k _ _ l0 t_1 t_0 t_5 _ ?side1 ?side2 A2.out).mono ?_); (case side1 => repeat (first | exact HR0.out | (with_reducible refine Kd.C_alloc ?_ _) | (with_reducible refine Kd.C_drewN ?_ _) | (with_reducible refine Kd.C_drew ?_))); (case side2 => exact HC0.out); rintro e w' ⟨rfl, ⟨nd, rfl⟩⟩; refine ⟨_, rfl, ?_⟩))
     go_ret3
     exact ⟨_, reT, by first | exact Kd.R_nil _ _ _ _ _ | exact Kd.N_nil _ _ _ _ _ | exact Kd.V_nil _ _ _ _ _ | exact Kd.Q_nil _ _ _ _ _ | exact Kd.S_nil _ _ _ _ _, hU HB.out⟩
    ·rw [if_neg c6] at H
     have c6b0 := decide_eq_false c6
     clear c6
     have H' := Y0.mk H
     clear H
     go_enter Try.func116, Try.ntmps116
     go_wp2_with (first | ((with_reducible refine Y8 (f := 148) rfl ?_); refine goesA (some 14) Try.func148 #[.slice A0 l0.length c0] ?_; (with_reducible refine (Yq.calls k _ _ l0 t_1 t_0 t_5 _ ?side1 ?side2 A2.out).mono ?_); (case side1 => repeat (first | exact HR0.out | (with_reducible refine Kd.C_alloc ?_ _) | (with_reducible refine Kd.C_drewN ?_ _) | (with_reducible refine Kd.C_drew ?_))); (case side2 => exact HC0.out); rintro e w' ⟨rfl, ⟨nd, rfl⟩⟩; refine ⟨_, rfl, ?_⟩))
     go_loopg [8, 36] k (fun kq v8 v36 w' => ∃ (x8_1 : Int) (x36_1 : Int), v8 = .int .u32 x8_1 ∧ v36 = .int .i64 x36_1 ∧ Y0 (YY.l0 kq l0 t_1 t_0 x8_1 x36_1 = some (r1, r2, r3)) ∧ Y0 (kq ≤ k) ∧ Y0 (Below w.heap.size w w'))
     case atStart => exact ⟨(0), (0), reS, reS, H', ⟨Nat.le_refl _⟩, ⟨hU HB.out⟩⟩
     case round =>
      clear H'
      try clear c1
      try clear p2
      try clear c3
      try clear c3b0
      try clear c3b1
      try clear c4
      try clear c4b0
      try clear c5
      try clear c5b0
      try clear c6
      try clear c6b0
      try clear p6
      obtain ⟨x8_1, x36_1, rfl, rfl, HA, HK1, HB⟩ := hrel
      cases gk with
      | zero => exact absurd HA.out (by simp [YY.l0])
      | succ k1 =>
       have H := HA.out
       clear HA
       simp only [YY.l0] at H
       by_cases c7 : x36_1 < 4
       ·rw [if_pos c7] at H
        have c7b0 := decide_eq_true c7
        clear c7
        obtain ⟨ji8, hji8⟩ : ∃ j_ : Int, (wrap64 (t_0 + x36_1)) = j_ := ⟨_, rfl⟩
        replace H : (if 0 ≤ (ji8) then (if (ji8) < (l0.length : Int) then (if 0 ≤ (wrap64 (8 * x36_1)) then (YY.l0 k1 l0 t_1 t_0 (Go.bits .or .u32 x8_1 (shl .u32 ((rd l0 (ji8)) % 4294967296) (wrap64 (8 * x36_1)))) (wrap64 (x36_1 + 1))) else (none)) else (none)) else (none)) = some (r1, r2, r3) := by first | (rw [hji8] at H; exact H) | (simp only [hji8] at H ⊢; exact H)
        have hji8w : (IntKind.i64.wrap (t_0 + x36_1)) = ji8 := (i64_w _).trans hji8
        obtain ⟨c9, H⟩ := iS H
        have c9b0 := decide_eq_true c9
        clear c9
        obtain ⟨c10, H⟩ := iS H
        have c10b0 := decide_eq_true c10
        clear c10
        obtain ⟨ji11, hji11⟩ : ∃ j_ : Int, (wrap64 (8 * x36_1)) = j_ := ⟨_, rfl⟩
        replace H : (if 0 ≤ (ji11) then (YY.l0 k1 l0 t_1 t_0 (Go.bits .or .u32 x8_1 (shl .u32 ((rd l0 (ji8)) % 4294967296) (ji11))) (wrap64 (x36_1 + 1))) else (none)) = some (r1, r2, r3) := by first | (rw [hji11] at H; exact H) | (simp only [hji11] at H ⊢; exact H)
        have hji11w : (IntKind.i64.wrap (8 * x36_1)) = ji11 := (i64_w _).trans hji11
        obtain ⟨c12, H⟩ := iS H
        have c12b0 := eq_true c12
        have c12b1 := decide_eq_true c12
        clear c12
        obtain ⟨ji13, hji13⟩ : ∃ j_ : Int, (shl .u32 ((rd l0 (ji8)) % 4294967296) (ji11)) = j_ := ⟨_, rfl⟩
        replace H : (YY.l0 k1 l0 t_1 t_0 (Go.bits .or .u32 x8_1 (ji13)) (wrap64 (x36_1 + 1))) = some (r1, r2, r3) := by first | (rw [hji13] at H; exact H) | (simp only [hji13] at H ⊢; exact H)
        have hji13_ : (IntKind.u32.wrap (((rd l0 (ji8)) % 4294967296) * 2 ^ min (ji11).toNat 32)) = ji13 := hji13
        have hji13z : (ji11) ≤ 32 → (IntKind.u32.wrap (((rd l0 (ji8)) % 4294967296) * 2 ^ (ji11).toNat)) = ji13 := Y3F hji13
        have H' := Y0.mk H
        clear H
        have p1617 : 0 ≤ ((ji8) : Int) := of_decide_eq_true (by first | (with_reducible assumption) | assumption)
        have q1617 : (ji8) < (l0.length : Int) := of_decide_eq_true (by first | (with_reducible assumption) | assumption)
        obtain ⟨d_0, e1617, m_0⟩ := Kd.at_int HR0.out (ji8) p1617 q1617
        cases e1617
        replace m_0 := hbC HB m_0
        replace p1617 := eq_true p1617
        replace q1617 := eq_true q1617
        go_wp2
        go_roundg k1
        case measure => have := HK1.out; omega
        case rel => exact ⟨(Go.bits .or .u32 x8_1 (ji13)), (wrap64 (x36_1 + 1)), (by first | rfl | (simp; done) | (simp only [← hji13] <;> (first | rfl | simp)) | (simp [*]; done)), reS, H', ⟨by have := HK1.out; omega⟩, ⟨hU HB.out⟩⟩
       ·rw [if_neg c7] at H
        have c7b0 := decide_eq_false c7
        clear c7
        obtain ⟨ji14, hji14⟩ : ∃ j_ : Int, (wrap64 (t_0 + 4)) = j_ := ⟨_, rfl⟩
        replace H : (if 0 ≤ (ji14) then (if (ji14) ≤ (wrap64 ((ji14) + t_1)) then (if (wrap64 ((ji14) + t_1)) ≤ (l0.length : Int) then ((slices_Clone_byte_byte.f ((l0.take ((wrap64 ((ji14) + t_1)) : Int).toNat).drop ((ji14) : Int).toNat)).bind fun t_2 => (if 0 ≤ t_0 then (if t_0 ≤ (l0.length : Int) then ((Y1A.f k1 (l0.take (t_0 : Int).toNat)).bind fun t_3 => ((YB.f k1 t_3 t_2).bind fun t_4 => (if t_4 = x8_1 then (some (t_2, wrap64 ((ji14) + t_1), 0)) else (some (([] : List Int), 0, 14))))) else (none)) else (none))) else (none)) else (none)) else (none)) = some (r1, r2, r3) := by first | (rw [hji14] at H; exact H) | (simp only [hji14] at H ⊢; exact H)
        have hji14w : (IntKind.i64.wrap (t_0 + 4)) = ji14 := (i64_w _).trans hji14
        obtain ⟨c15, H⟩ := iS H
        have c15b0 := eq_true c15
        have c15b1 := decide_eq_true c15
        clear c15
        obtain ⟨c16, H⟩ := iS H
        have c16b0 := eq_true c16
        have c16b1 := decide_eq_true c16
        obtain ⟨c17, H⟩ := iS H
        have c17b0 := eq_true c17
        have c17b1 := decide_eq_true c17
        obtain ⟨t_2, A180, H⟩ := bS H
        try dsimp only at H
        have A18 := Y0.mk A180
        clear A180
        obtain ⟨c19, H⟩ := iS H
        have c19b0 := eq_true c19
        have c19b1 := decide_eq_true c19
        clear c19
        obtain ⟨c20, H⟩ := iS H
        have c20b0 := eq_true c20
        have c20b1 := decide_eq_true c20
        clear c20
        obtain ⟨t_3, A210, H⟩ := bS H
        try dsimp only at H
        have A21 := Y0.mk A210
        clear A210
        obtain ⟨t_4, A220, H⟩ := bS H
        replace H : (if t_4 = x8_1 then (some (t_2, wrap64 ((ji14) + t_1), 0)) else (some (([] : List Int), 0, 14))) = some (r1, r2, r3) := H
        have A22 := Y0.mk A220
        clear A220
        by_cases c23 : t_4 = x8_1
        ·rw [if_pos c23] at H
         have c23b0 := bqT c23
         have c23b1 := bnF c23
         clear c23
         simp only [Option.some.injEq, Prod.mk.injEq] at H
         obtain ⟨rfl, rfl, rfl⟩ := H
         obtain ⟨i024, hi024, _, hsz24, _⟩ := info_parts info5
         obtain ⟨A24, hcut24, hA24, hC24⟩ := Y1I (P := Try.prog) (Value.int .u8) 0 60 5 .i64 .i64 Try.underlying60 hi024 hsz24 A0 c0 l0 (ji14) (wrap64 ((ji14) + t_1)) (of_decide_eq_true (by first | (with_reducible assumption) | assumption)) (by first | omega | exact of_decide_eq_true (by first | (with_reducible assumption) | assumption)) (of_decide_eq_true (by first | (with_reducible assumption) | assumption)) HC0.out
         have HR1618 := Y0.mk (Kd.C_of_reads (h1 := fun _ => rfl) (hA24 _ (Kd.reads_of_C HR0.out)))
         have HC1618 := Y0.mk hC24
         clear hA24 hC24 hi024 hsz24
         go_wp2_with (first | ((with_reducible refine Y8 (f := 84) rfl ?_); refine Y1C (some 61) rfl rfl Try.func84 (by kernel_rfl) rfl #[.slice A24 ((l0.take ((wrap64 ((ji14) + t_1)) : Int).toNat).drop ((ji14) : Int).toNat).length (c0 - (ji14).toNat)] rfl (by (try simp only [List.map_toArray, List.map_cons, List.map_nil]); first | done | (rw [show ((l0.take ((wrap64 ((ji14) + t_1)) : Int).toNat).drop ((ji14) : Int).toNat).length = ((wrap64 ((ji14) + t_1)).toNat - (ji14).toNat) from (by rw [List.length_drop, List.length_take]; have h_ : ((wrap64 ((ji14) + t_1)) : Int) ≤ (l0.length : Int) := of_decide_eq_true (by first | (with_reducible assumption) | assumption); omega)] <;> rfl) | (simp only [hji14]; rfl) | rfl | (simp only [List.length_drop, List.length_take]; rfl)) ?_; (with_reducible refine (slices_Clone_byte_byte.calls _ _ ((l0.take ((wrap64 ((ji14) + t_1)) : Int).toNat).drop ((ji14) : Int).toNat) t_2 _ ?side1 ?side2 A18.out).mono ?_); (case side1 => repeat (first | exact (Kd.C_below HR1618.out HB.out) | (with_reducible refine Kd.C_alloc ?_ _) | (with_reducible refine Kd.C_drewN ?_ _) | (with_reducible refine Kd.C_drew ?_))); (case side2 => exact HC1618.out); rintro e w25 ⟨v_0, rfl, ho0, hb⟩; refine ⟨_, rfl, ?_⟩; replace O_0 := Y0.mk (Kd.R_lower ho0 (Yi (hU HB.out))); replace HB := Y0.mk (Y4 (hU HB.out) hb); (try clear hb); (try clear hb2); (try clear hk); (try clear hi); (try clear ho0); obtain ⟨i026, hi026, _, hsz26, _⟩ := info_parts info5; obtain ⟨hcut26, hA26, hC26⟩ := Y20 (P := Try.prog) (Value.int .u8) 0 60 5 .i64 Try.underlying60 hi026 hsz26 A0 c0 l0 t_0 (of_decide_eq_true (by first | (with_reducible assumption) | assumption)) (of_decide_eq_true (by first | (with_reducible assumption) | assumption)) HC0.out; have HR1622 := Y0.mk (Kd.C_of_reads (h1 := fun _ => rfl) (hA26 _ (Kd.reads_of_C HR0.out))); have HC1622 := Y0.mk hC26; clear hA26 hC26 hi026 hsz26) | ((with_reducible refine Y8 (f := 112) rfl ?_); refine Y1C (some 65) rfl rfl Try.func112 (by kernel_rfl) rfl #[.slice A0 (l0.take (t_0 : Int).toNat).length c0] rfl (by (try simp only [List.map_toArray, List.map_cons, List.map_nil]); first | done | (rw [show (l0.take (t_0 : Int).toNat).length = t_0.toNat from (by rw [List.length_take]; have h_ : (t_0 : Int) ≤ (l0.length : Int) := of_decide_eq_true (by first | (with_reducible assumption) | assumption); omega)] <;> rfl) | rfl | (simp only [List.length_drop, List.length_take]; rfl)) ?_; (with_reducible refine (Y1A.calls k1 _ _ (l0.take (t_0 : Int).toNat) t_3 _ ?side1 ?side2 A21.out).mono ?_); (case side1 => repeat (first | exact (Kd.C_below HR1622.out HB.out) | (with_reducible refine Kd.C_alloc ?_ _) | (with_reducible refine Kd.C_drewN ?_ _) | (with_reducible refine Kd.C_drew ?_))); (case side2 => exact HC1622.out); rintro e w' ⟨rfl, ⟨nd, rfl⟩⟩; refine ⟨_, rfl, ?_⟩; obtain ⟨Ao27, co27, eo27⟩ := Kd.R_slice O_0.out; subst eo27) | ((with_reducible refine Y8 (f := 111) rfl ?_); refine goesA (some 67) Try.func111 #[.int .u32 t_3, .slice Ao27 t_2.length co27] ?_; (with_reducible refine (YB.calls k1 t_3 _ _ t_2 t_4 _ ?side1 ?side2 A22.out).mono ?_); (case side1 => repeat (first | exact (Kd.R_reads' O_0.out).2.2 | (with_reducible refine Kd.C_alloc ?_ _) | (with_reducible refine Kd.C_drewN ?_ _) | (with_reducible refine Kd.C_drew ?_))); (case side2 => exact (Kd.R_reads' O_0.out).2.1); rintro e w' ⟨rfl, ⟨nd, rfl⟩⟩; refine ⟨_, rfl, ?_⟩))
         go_ret3
         exact ⟨_, by first | rfl | (simp [Y1f, Y1g] <;> rfl) | (simp only [← hji14]; first | rfl | (simp [Y1f, Y1g] <;> rfl)) | (simp [*, Y1f, Y1g] <;> rfl), by (with_reducible repeat (first | apply Kd.R_alloc | apply Kd.R_drewN | apply Kd.R_drew)); exact O_0.out, hU HB.out⟩
        ·rw [if_neg c23] at H
         have c23b0 := bqF c23
         have c23b1 := bnT c23
         simp only [Option.some.injEq, Prod.mk.injEq] at H
         obtain ⟨rfl, rfl, rfl⟩ := H
         obtain ⟨i028, hi028, _, hsz28, _⟩ := info_parts info5
         obtain ⟨A28, hcut28, hA28, hC28⟩ := Y1I (P := Try.prog) (Value.int .u8) 0 60 5 .i64 .i64 Try.underlying60 hi028 hsz28 A0 c0 l0 (ji14) (wrap64 ((ji14) + t_1)) (of_decide_eq_true (by first | (with_reducible assumption) | assumption)) (by first | omega | exact of_decide_eq_true (by first | (with_reducible assumption) | assumption)) (of_decide_eq_true (by first | (with_reducible assumption) | assumption)) HC0.out
         have HR1618 := Y0.mk (Kd.C_of_reads (h1 := fun _ => rfl) (hA28 _ (Kd.reads_of_C HR0.out)))
         have HC1618 := Y0.mk hC28
         clear hA28 hC28 hi028 hsz28
         go_wp2_with (first | ((with_reducible refine Y8 (f := 84) rfl ?_); refine Y1C (some 61) rfl rfl Try.func84 (by kernel_rfl) rfl #[.slice A28 ((l0.take ((wrap64 ((ji14) + t_1)) : Int).toNat).drop ((ji14) : Int).toNat).length (c0 - (ji14).toNat)] rfl (by (try simp only [List.map_toArray, List.map_cons, List.map_nil]); first | done | (rw [show ((l0.take ((wrap64 ((ji14) + t_1)) : Int).toNat).drop ((ji14) : Int).toNat).length = ((wrap64 ((ji14) + t_1)).toNat - (ji14).toNat) from (by rw [List.length_drop, List.length_take]; have h_ : ((wrap64 ((ji14) + t_1)) : Int) ≤ (l0.length : Int) := of_decide_eq_true (by first | (with_reducible assumption) | assumption); omega)] <;> rfl) | (simp only [hji14]; rfl) | rfl | (simp only [List.length_drop, List.length_take]; rfl)) ?_; (with_reducible refine (slices_Clone_byte_byte.calls _ _ ((l0.take ((wrap64 ((ji14) + t_1)) : Int).toNat).drop ((ji14) : Int).toNat) t_2 _ ?side1 ?side2 A18.out).mono ?_); (case side1 => repeat (first | exact (Kd.C_below HR1618.out HB.out) | (with_reducible refine Kd.C_alloc ?_ _) | (with_reducible refine Kd.C_drewN ?_ _) | (with_reducible refine Kd.C_drew ?_))); (case side2 => exact HC1618.out); rintro e w29 ⟨v_0, rfl, ho0, hb⟩; refine ⟨_, rfl, ?_⟩; replace O_0 := Y0.mk (Kd.R_lower ho0 (Yi (hU HB.out))); replace HB := Y0.mk (Y4 (hU HB.out) hb); (try clear hb); (try clear hb2); (try clear hk); (try clear hi); (try clear ho0); obtain ⟨i030, hi030, _, hsz30, _⟩ := info_parts info5; obtain ⟨hcut30, hA30, hC30⟩ := Y20 (P := Try.prog) (Value.int .u8) 0 60 5 .i64 Try.underlying60 hi030 hsz30 A0 c0 l0 t_0 (of_decide_eq_true (by first | (with_reducible assumption) | assumption)) (of_decide_eq_true (by first | (with_reducible assumption) | assumption)) HC0.out; have HR1622 := Y0.mk (Kd.C_of_reads (h1 := fun _ => rfl) (hA30 _ (Kd.reads_of_C HR0.out))); have HC1622 := Y0.mk hC30; clear hA30 hC30 hi030 hsz30) | ((with_reducible refine Y8 (f := 112) rfl ?_); refine Y1C (some 65) rfl rfl Try.func112 (by kernel_rfl) rfl #[.slice A0 (l0.take (t_0 : Int).toNat).length c0] rfl (by (try simp only [List.map_toArray, List.map_cons, List.map_nil]); first | done | (rw [show (l0.take (t_0 : Int).toNat).length = t_0.toNat from (by rw [List.length_take]; have h_ : (t_0 : Int) ≤ (l0.length : Int) := of_decide_eq_true (by first | (with_reducible assumption) | assumption); omega)] <;> rfl) | rfl | (simp only [List.length_drop, List.length_take]; rfl)) ?_; (with_reducible refine (Y1A.calls k1 _ _ (l0.take (t_0 : Int).toNat) t_3 _ ?side1 ?side2 A21.out).mono ?_); (case side1 => repeat (first | exact (Kd.C_below HR1622.out HB.out) | (with_reducible refine Kd.C_alloc ?_ _) | (with_reducible refine Kd.C_drewN ?_ _) | (with_reducible refine Kd.C_drew ?_))); (case side2 => exact HC1622.out); rintro e w' ⟨rfl, ⟨nd, rfl⟩⟩; refine ⟨_, rfl, ?_⟩; obtain ⟨Ao31, co31, eo31⟩ := Kd.R_slice O_0.out; subst eo31) | ((with_reducible refine Y8 (f := 111) rfl ?_); refine goesA (some 67) Try.func111 #[.int .u32 t_3, .slice Ao31 t_2.length co31] ?_; (with_reducible refine (YB.calls k1 t_3 _ _ t_2 t_4 _ ?side1 ?side2 A22.out).mono ?_); (case side1 => repeat (first | exact (Kd.R_reads' O_0.out).2.2 | (with_reducible refine Kd.C_alloc ?_ _) | (with_reducible refine Kd.C_drewN ?_ _) | (with_reducible refine Kd.C_drew ?_))); (case side2 => exact (Kd.R_reads' O_0.out).2.1); rintro e w' ⟨rfl, ⟨nd, rfl⟩⟩; refine ⟨_, rfl, ?_⟩))
         go_ret3
         exact ⟨_, by first | rfl | (simp [Y1f, Y1g] <;> rfl) | (simp only [← hji14]; first | rfl | (simp [Y1f, Y1g] <;> rfl)) | (simp [*, Y1f, Y1g] <;> rfl), by first | exact Kd.R_nil _ _ _ _ _ | exact Kd.N_nil _ _ _ _ _ | exact Kd.V_nil _ _ _ _ _ | exact Kd.Q_nil _ _ _ _ _ | exact Kd.S_nil _ _ _ _ _, hU HB.out⟩
 ·rw [if_neg c3] at H
  have c3b0 := bqF c3
  have c3b1 := bnT c3
  simp only [Option.some.injEq, Prod.mk.injEq] at H
  obtain ⟨rfl, rfl, rfl⟩ := H
  go_enter Try.func116, Try.ntmps116
  go_wp2_with (first | ((with_reducible refine Y8 (f := 148) rfl ?_); refine goesA (some 14) Try.func148 #[.slice A0 l0.length c0] ?_; (with_reducible refine (Yq.calls k _ _ l0 t_1 t_0 t_5 _ ?side1 ?side2 A2.out).mono ?_); (case side1 => repeat (first | exact HR0.out | (with_reducible refine Kd.C_alloc ?_ _) | (with_reducible refine Kd.C_drewN ?_ _) | (with_reducible refine Kd.C_drew ?_))); (case side2 => exact HC0.out); rintro e w' ⟨rfl, ⟨nd, rfl⟩⟩; refine ⟨_, rfl, ?_⟩))
  go_ret3
  exact ⟨_, reT, by first | exact Kd.R_nil _ _ _ _ _ | exact Kd.N_nil _ _ _ _ _ | exact Kd.V_nil _ _ _ _ _ | exact Kd.Q_nil _ _ _ _ _ | exact Kd.S_nil _ _ _ _ _, hU HB.out⟩
end Go.Proofs.Yteopkkoblbmggaa.P
end
section
set_option linter.unusedVariables false
namespace Go.Proofs.Yteopkkoblbmggaa.P
open Go Go.RowKit
def Y4B {α : Type} (F : Fence) (n : Nat) (P : Program) (g : Nat) (lb : Array Value) (encs : α → Array Value) (Cx : List α → α → World → Prop) (Kp : World → World → Prop) (S Sp : List α → Prop) (N : Nat) (w : World) : Prop :=
  ∀ (l : Nat) (J Jx : List α → World → Prop) (W : World), Below w.heap.size w W → AbidesFrom W.heap.size J → AbidesFrom W.heap.size Jx →
    (∀ pre x W1, J pre W1 → Cx pre x W1 → pre.length < N → YieldAt F (n - 1) P l (encs x) W1 fun e W' =>
      (e = .returned (.bool true) ∧ J (pre ++ [x]) W' ∧ Kp W1 W') ∨ (e = .returned (.bool false) ∧ Jx (pre ++ [x]) W')) →
    J [] W →
    CallsIn F n P g (#[.func (.yield l) #[] #[]] ++ lb) W fun e W' => (∃ v, e = .returned v) ∧ ((∃ xs, S xs ∧ J xs W') ∨ (∃ pre, Sp pre ∧ Jx pre W'))
variable {F : Fence} {n : Nat} {P : Program} {w : World}
theorem Y2X {α : Type} {g : Operand} {ps : Array Tmp} {assign body : Code} {Q : Exit → Act → World → Prop} {a : Act} {w : World}
    (hro : F.round = none) (h1 : 1 ≤ n) {gf : Nat} {lb : Array Value} (hg : a.eval g = .func (.func gf) #[] lb) (hFg : F.fn gf) (eg : ∀ args w, (callFunc gf args).run P w = .ok (.enter gf args) w)
    {encs : α → Array Value} {Kp : World → World → Prop} {S Sp : List α → Prop} {N : Nat} {w0 : World} {Cx : List α → α → World → Prop} (hseq : Y4B F (n - 1) P gf lb encs Cx Kp S Sp N w0)
    (hKt : ∀ {A B C : World}, Kp A B → Kp B C → Kp A C) (hKb : ∀ (W : World) (l : Nat) (o o' : Obj), w.heap.size ≤ l → W.heap[l]? = some o → o.isCells = false → o.isWalk = false → Kp W (W.putObj l o')) (hb0 : Below w0.heap.size w0 w) (hps : ∀ x, (encs x).size = ps.size)
    (I : List α → World → Prop) (Ix : Code → List α → World → Prop) (hI : OwnFrom w.heap.size I) (hIx : ∀ c, OwnFrom w.heap.size (Ix c)) (h0 : I [] w) (Ax : List α → α → Act → World → Prop) (hAx : ∀ pre x a', OwnFrom w.heap.size (fun (_ : Unit) W => Ax pre x a' W))
    (hassign : ∀ (l : Nat) (pre : List α) (x : α) (W : World) (K : Act → World → Prop), I pre W → Cx pre x W → (∀ a' W', KeepsFrom w.heap.size W W' → Kp W W' → I pre W' → Ax pre x a' W' → K a' W') →
      assign.wpIn (F.inRound l) (n - 1 - 1) P (Exit.then K (fun _ _ _ => False)) { tmps := (ps.zip (encs x)).foldl (fun t (p, v) => t.setIfInBounds p v) a.tmps, defers := [] } W)
    (hbody : ∀ (l : Nat) (pre : List α) (x : α) (a' : Act) (W : World), w.heap.size ≤ l → (∃ r, W.heap[l]? = some (.loop r)) → I pre W → Ax pre x a' W → pre.length < N → body.wpIn (F.inRound l) (n - 1 - 1) P (ownPostG w.heap.size Kp I Ix (pre ++ [x]) W) a' W)
    (hdone : ∀ (D : Nat) (xs : List α) (W : World), w.heap.size ≤ D → S xs → I xs W → W.heap[D]? = some (.deferred (some [])) → Q .normal { a with defers := { target := .collected D, args := #[] } :: a.defers } W)
    (hstop : ∀ (D : Nat) (c : Code) (pre : List α) (W : World), w.heap.size ≤ D → Sp pre → Ix c pre W → W.heap[D]? = some (.deferred (some [])) → c.wpIn F n P Q { a with defers := { target := .collected D, args := #[] } :: a.defers } W) :
    (Code.rangeFunc g ps assign body).wpIn F n P Q a w := by
  refine wpIn_rangeFunc ?_
  intro fn hfn
  rw [hro]
  obtain ⟨rec, hrec⟩ : ∃ rec : LoopState → Option Code → Loop, rec = fun st pe => { state := st, pending := pe, fn, tmps := a.tmps, params := ps, assign, body, defers := w.heap.size } := ⟨_, rfl⟩
  obtain ⟨W1, hW1⟩ : ∃ W1, (w.alloc (.deferred (some []))).alloc (.loop (rec .ready none)) = W1 := ⟨_, rfl⟩
  have hL1 : W1.heap[w.heap.size + 1]? = some (.loop (rec .ready none)) := by
    rw [← hW1]; have := World.alloc_heap_new (w.alloc (.deferred (some []))) (.loop (rec .ready none)); rwa [World.size_alloc] at this
  have hK1 : W1.heap[w.heap.size]? = some (.deferred (some [])) := by
    rw [← hW1]; exact (Below.heap_alloc _ _ _ (by simp)).trans (World.alloc_heap_new w _)
  have hI1 : I [] W1 := by rw [← hW1]; exact hI.alloc _ (hI.alloc _ h0)
  have hb1 : Below w0.heap.size w0 W1 := by
    rw [← hW1]; exact hb0.trans ((((Below.refl _ w).alloc (Nat.le_refl _) _).alloc (by simp) _).mono hb0.size)
  refine ⟨w.heap.size + 1, [{ target := .collected w.heap.size, args := #[] }], W1, { target := .fn (.func gf) lb, args := #[.func (.yield (w.heap.size + 1)) #[] #[]] }, W1, gf,
    #[.func (.yield (w.heap.size + 1)) #[] #[]] ++ lb, W1, ?_, ?_, ?_, ?_, fun _ => h1, ?_⟩
  · rw [← hW1, hrec]; exact run_enterLoop_outer _ _ _ _ _
  · simp only [resolve, hg]
    simp [go_sem]
  · intro f' hf'; simp [Target.leads] at hf'; subst hf'; exact hFg
  · simp [invoke, go_sem, eg]
  ·
    have hnw : ∀ {A B : World} {row : Option Nat}, (∀ r, row = some r → W1.heap.size ≤ r ∧ ∃ o : Obj, A.heap[r]? = some o ∧ o.isWalk = true) → (∀ r, row = some r → w.heap.size ≤ r ∧ ∃ o : Obj, A.heap[r]? = some o ∧ o.isCells = false) :=
      fun hr r e => by obtain ⟨hB, o, ho, hw⟩ := hr r e; exact ⟨by rw [← hW1] at hB; simp at hB; omega, o, ho, Obj.not_cells_of_walk hw⟩
    refine (hseq (w.heap.size + 1)
      (fun pre W => I pre W ∧ W.heap[w.heap.size + 1]? = some (.loop (rec .ready none)) ∧ W.heap[w.heap.size]? = some (.deferred (some [])))
      (fun pre W => ∃ c, Ix c pre W ∧ W.heap[w.heap.size + 1]? = some (.loop (rec .done (some c))) ∧ W.heap[w.heap.size]? = some (.deferred (some [])))
      W1 hb1
      (fun s A B row hs hg' hr => ⟨hI s A B row hs.1 hg' (hnw (B := B) hr), (grownBy_keeps hg' (fun r e => (hr r e).2) hs.2.1 rfl).trans hs.2.1, (grownBy_keeps hg' (fun r e => (hr r e).2) hs.2.2 rfl).trans hs.2.2⟩)
      (fun s A B row hs hg' hr => by
        obtain ⟨c, hc, hl, hk⟩ := hs
        exact ⟨c, hIx c s A B row hc hg' (hnw (B := B) hr), (grownBy_keeps hg' (fun r e => (hr r e).2) hl rfl).trans hl, (grownBy_keeps hg' (fun r e => (hr r e).2) hk rfl).trans hk⟩)
      ?_ ⟨hI1, hL1, hK1⟩).mono ?_
    ·
      rintro pre x W ⟨hi, hl, hk⟩ hcx hlen
      have hlt : w.heap.size + 1 < W.heap.size := (Array.getElem?_eq_some_iff.1 hl).1
      have hy := run_yield (P := P) (args := encs x) hl (by rw [hrec]; exact hps x)
      rw [hrec] at hy
      refine ⟨fn, _, assign, body, hy, roundIn_of_wpIn hfn (hassign _ pre x W _ hi hcx ?_)⟩
      clear hy hcx
      intro a' Wa hkfa hkpa hia hax
      replace hl := hkfa.same _ _ (by omega) hl rfl
      replace hk := hkfa.same _ _ (Nat.le_refl _) hk rfl
      replace hlt : w.heap.size + 1 < Wa.heap.size := (Array.getElem?_eq_some_iff.1 hl).1
      replace hi := hia
      clear hia
      revert hkpa hkfa
      generalize W = Wb
      intro hkfa hkpa
      obtain ⟨W, rfl⟩ : ∃ W, W = Wa := ⟨_, rfl⟩
      refine ⟨_, run_beginRound hl (by rw [hrec]), ?_⟩
      have hl2 : (W.putObj (w.heap.size + 1) (.loop { rec .ready none with state := .busy })).heap[w.heap.size + 1]? = some (.loop { rec .ready none with state := .busy }) := World.putObj_heap_same hlt
      have hk2 : (W.putObj (w.heap.size + 1) (.loop { rec .ready none with state := .busy })).heap[w.heap.size]? = some (.deferred (some [])) := (World.putObj_heap_other (by omega)).trans hk
      have hw2 : Kp W (W.putObj (w.heap.size + 1) (.loop { rec .ready none with state := .busy })) := hKb _ _ _ _ (by omega) hl rfl rfl
      refine wpIn_mono (hbody _ pre x a' _ (by omega) ⟨_, hl2⟩ (hI.putObj _ hi (by omega) hl rfl) ((hAx pre x a').putObj (s := ()) _ hax (by omega) hl rfl) hlen) ?_
      have fin : ∀ (jump : Option Code) (W3 : World), KeepsFrom w.heap.size (W.putObj (w.heap.size + 1) (.loop { rec .ready none with state := .busy })) W3 →
          (Instr.endRound (w.heap.size + 1) jump).run P W3 = .ok (.bool jump.isNone) (W3.putObj (w.heap.size + 1) (.loop (rec (if jump.isNone then .ready else .done) jump))) ∧
          W3.heap[w.heap.size + 1]? = some (.loop { rec .ready none with state := .busy }) ∧
          (W3.putObj (w.heap.size + 1) (.loop (rec (if jump.isNone then .ready else .done) jump))).heap[w.heap.size + 1]? = some (.loop (rec (if jump.isNone then .ready else .done) jump)) ∧
          (W3.putObj (w.heap.size + 1) (.loop (rec (if jump.isNone then .ready else .done) jump))).heap[w.heap.size]? = some (.deferred (some [])) := fun jump W3 hk3 => by
        have hl3 := hk3.same _ _ (by omega) hl2 rfl
        have := run_endRound (P := P) jump hl3
        rw [hrec] at this ⊢
        exact ⟨this, by rw [hrec] at hl3; exact hl3, World.putObj_heap_same (Array.getElem?_eq_some_iff.1 hl3).1, (World.putObj_heap_other (by omega)).trans (hk3.same _ _ (Nat.le_refl _) hk2 rfl)⟩
      rintro e a3 W3 hp
      cases e with
      | normal =>
        obtain ⟨hk3, hkp3, hi3⟩ := hp
        obtain ⟨hr, hl3, hl4, hk4⟩ := fin none W3 hk3
        exact ⟨_, _, hr, .inl ⟨rfl, ⟨hI.putObj _ hi3 (by omega) hl3 rfl, hl4, hk4⟩, hKt hkpa (hKt (hKt hw2 hkp3) (hKb _ _ _ _ (by omega) hl3 rfl rfl))⟩⟩
      | ret =>
        obtain ⟨hk3, hi3⟩ := hp
        obtain ⟨hr, hl3, hl4, hk4⟩ := fin (some .ret) W3 hk3
        exact ⟨_, _, hr, .inr ⟨rfl, .ret, (hIx _).putObj _ hi3 (by omega) hl3 rfl, hl4, hk4⟩⟩
      | exit id =>
        obtain ⟨hk3, hi3⟩ := hp
        obtain ⟨hr, hl3, hl4, hk4⟩ := fin (some (.exit id)) W3 hk3
        exact ⟨_, _, hr, .inr ⟨rfl, .exit id, (hIx _).putObj _ hi3 (by omega) hl3 rfl, hl4, hk4⟩⟩
      | goto t =>
        obtain ⟨hk3, hi3⟩ := hp
        obtain ⟨hr, hl3, hl4, hk4⟩ := fin (some (.goto t)) W3 hk3
        exact ⟨_, _, hr, .inr ⟨rfl, .goto t, (hIx _).putObj _ hi3 (by omega) hl3 rfl, hl4, hk4⟩⟩
      | panic ch => exact hp.elim
      | outgrown => exact hp.elim
    ·
      rintro e W2 ⟨⟨v, rfl⟩, (⟨xs, hS, hi, hl, hk⟩ | ⟨pre, hSp, c, hi, hl, hk⟩)⟩
      · exact ⟨none, _, by have := run_endLoop (P := P) hl (by rw [hrec]; simp); rw [hrec] at this; exact this, hdone _ xs _ (Nat.le_refl _) hS (hI.putObj _ hi (by omega) hl rfl) ((World.putObj_heap_other (by omega)).trans hk)⟩
      · exact ⟨some c, _, by have := run_endLoop (P := P) hl (by rw [hrec]; simp); rw [hrec] at this; exact this, hstop _ c pre _ (Nat.le_refl _) hSp ((hIx c).putObj _ hi (by omega) hl rfl) ((World.putObj_heap_other (by omega)).trans hk)⟩
end Go.Proofs.Yteopkkoblbmggaa.P
end

/- Texts of this claim in one: VP68, VP71, VP72, VP73; no condition. -/
import Derived.Test.YteopkkoblbmggaaQAC
import Derived.Test.YteopkkoblbmggaaQAE
section
namespace Go.Proofs.Yteopkkoblbmggaa.P
open Go.RowKit Go.Proofs.YteopkkoblbmggaaW.PrintWords Go.Proofs.YteopkkoblbmggaaW.PrintLast Go.Proofs.YteopkkoblbmggaaW.PrintMore
attribute [local go_sem] Y11 Y13 Y19 Y1a YR YS Y12 Y14
set_option linter.unusedVariables false
set_option linter.unusedSimpArgs false
mutual
def Yb.l0 : Nat → List Int → Int → Int → Option (Int)
 | 0, _, _, _ => none
 | k + 1, x1, x5, x6 => if x6 < (x1.length : Int) then (if 0 ≤ x6 then (Yb.l1 k x1 (Go.bits .xor .u32 x5 ((rd x1 x6) % 4294967296)) x6 0) else (none)) else (some (Go.bits .xor .u32 4294967295 x5))
def Yb.l1 : Nat → List Int → Int → Int → Int → Option (Int)
 | 0, _, _, _, _ => none
 | k + 1, x1, x5, x6, x7 => if x7 < 8 then (if (Go.bits .and .u32 x5 1) = 1 then (Yb.l1 k x1 (Go.bits .xor .u32 (x5 / 2) 2197175160) x6 (wrap64 (x7 + 1))) else (Yb.l1 k x1 (x5 / 2) x6 (wrap64 (x7 + 1)))) else (Yb.l0 k x1 x5 (wrap64 (x6 + 1)))
end
def Yb.f (k : Nat) (a0 : Int) (l1 : List Int) : Option (Int) := Yb.l0 k l1 (Go.bits .xor .u32 4294967295 a0) 0
theorem Yb.mono_l : ∀ k, (∀ y0 y1 y2, LeO (Yb.l0 k y0 y1 y2) (Yb.l0 (k + 1) y0 y1 y2)) ∧ (∀ y0 y1 y2 y3, LeO (Yb.l1 k y0 y1 y2 y3) (Yb.l1 (k + 1) y0 y1 y2 y3))
 | 0 => ⟨fun _ _ _ r h => by simp [Yb.l0] at h, fun _ _ _ _ r h => by simp [Yb.l1] at h⟩
 | k + 1 => by
  obtain ⟨ih0, ih1⟩ := Yb.mono_l k
  refine ⟨?_, ?_⟩
  ·intro y0 y1 y2
   unfold Yb.l0
   repeat' first
   | (with_reducible exact ih0 _ _ _)
   | (with_reducible exact ih1 _ _ _ _)
   | (with_reducible exact LeO.refl _)
   | (with_reducible exact LeO.none _)
   | (with_reducible refine LeO.ite ?_ ?_)
   | (with_reducible refine LeO.bind ?_ (fun _ => ?_))
  ·intro y0 y1 y2 y3
   unfold Yb.l1
   repeat' first
   | (with_reducible exact ih0 _ _ _)
   | (with_reducible exact ih1 _ _ _ _)
   | (with_reducible exact LeO.refl _)
   | (with_reducible exact LeO.none _)
   | (with_reducible refine LeO.ite ?_ ?_)
   | (with_reducible refine LeO.bind ?_ (fun _ => ?_))
theorem Yb.mono : ∀ a0 a1 k, LeO (Yb.f k a0 a1) (Yb.f (k + 1) a0 a1) := by
 intro a0 a1 k
 obtain ⟨ih0, ih1⟩ := Yb.mono_l k
 unfold Yb.f
 repeat' first
   | (with_reducible exact ih0 _ _ _)
   | (with_reducible exact ih1 _ _ _ _)
   | (with_reducible exact LeO.refl _)
   | (with_reducible exact LeO.none _)
   | (with_reducible refine LeO.ite ?_ ?_)
   | (with_reducible refine LeO.bind ?_ (fun _ => ?_))
set_option maxHeartbeats 8000000 in
set_option maxRecDepth 100000 in
theorem Yb.calls (k : Nat) (a0 : Int) (A1 : Option Addr) (c1 : Nat) (l1 : List Int) (r : Int) (w : World) (hr1 : Kd.C (Kd.int .u8) w A1 l1.length l1) (hc1 : l1.length ≤ c1) (h : Yb.f k a0 l1 = some r) :
  Calls Try.prog 119 #[.int .u32 a0, .slice A1 l1.length c1] w fun e w' => e = .returned (.int .u32 r) ∧ Drawn0 w w' := by
 have HR1 := Y0.mk hr1
 have HC1 := Y0.mk hc1
 clear hr1 hc1
 have H : (Yb.l0 k l1 (Go.bits .xor .u32 4294967295 a0) 0) = some r := h
 clear h
 have H' := Y0.mk H
 clear H
 go_enter Try.func119, Try.ntmps119
 go_wp2
 go_loopg [5, 6] k (fun kq v5 v6 w' => ∃ (x5_1 : Int) (x6_1 : Int), v5 = .int .u32 x5_1 ∧ v6 = .int .i64 x6_1 ∧ Y0 (Yb.l0 kq l1 x5_1 x6_1 = some r) ∧ Y0 (kq ≤ k) ∧ Drawn0 w w')
 case atStart => exact ⟨(Go.bits .xor .u32 4294967295 a0), (0), reS, reS, H', ⟨Nat.le_refl _⟩, dS⟩
 case round =>
  clear H'
  try clear c1
  try clear p2
  obtain ⟨x5_1, x6_1, rfl, rfl, HA, HK1, ⟨m1, rfl⟩⟩ := hrel
  cases gk with
  | zero => exact absurd HA.out (by simp [Yb.l0])
  | succ k1 =>
   have H := HA.out
   clear HA
   simp only [Yb.l0] at H
   by_cases c3 : x6_1 < (l1.length : Int)
   ·rw [if_pos c3] at H
    have c3b0 := decide_eq_true c3
    clear c3
    obtain ⟨c4, H⟩ := iS H
    have c4b0 := decide_eq_true c4
    clear c4
    have H' := Y0.mk H
    clear H
    have p1307 : 0 ≤ (x6_1 : Int) := of_decide_eq_true (by first | (with_reducible assumption) | assumption)
    have q1307 : x6_1 < (l1.length : Int) := of_decide_eq_true (by first | (with_reducible assumption) | assumption)
    obtain ⟨d_0, e1307, m_0⟩ := Kd.at_int HR1.out x6_1 p1307 q1307
    cases e1307
    replace p1307 := eq_true p1307
    replace q1307 := eq_true q1307
    go_wp2
    go_loopg [5, 7] k1 (fun kq v5 v7 w' => ∃ (x5_2 : Int) (x7_2 : Int), v5 = .int .u32 x5_2 ∧ v7 = .int .i64 x7_2 ∧ Y0 (Yb.l1 kq l1 x5_2 x6_1 x7_2 = some r) ∧ Y0 (kq ≤ k1) ∧ Drawn0 w w')
    case atStart => exact ⟨(Go.bits .xor .u32 x5_1 ((rd l1 x6_1) % 4294967296)), (0), reS, reS, H', ⟨Nat.le_refl _⟩, dS⟩
    case round =>
     clear H'
     try clear c1
     try clear p1
     try clear q1
     try clear hx1
     try clear p2
     try clear c3
     try clear c3b0
     try clear c4
     try clear c4b0
     try clear m_0
     try clear p1307
     try clear p2
     try clear q1307
     obtain ⟨x5_2, x7_2, rfl, rfl, HA, HK2, ⟨m2, rfl⟩⟩ := hrel
     cases gk with
     | zero => exact absurd HA.out (by simp [Yb.l1])
     | succ k2 =>
      have H := HA.out
      clear HA
      simp only [Yb.l1] at H
      by_cases c5 : x7_2 < 8
      ·rw [if_pos c5] at H
       have c5b0 := decide_eq_true c5
       clear c5
       by_cases c6 : (Go.bits .and .u32 x5_2 1) = 1
       ·rw [if_pos c6] at H
        have c6b0 := bqT c6
        have c6b1 := bnF c6
        clear c6
        have H' := Y0.mk H
        clear H
        go_wp2
        go_roundg k2
        case measure => have := HK1.out; have := HK2.out; omega
        case rel => exact ⟨(Go.bits .xor .u32 (x5_2 / 2) 2197175160), (wrap64 (x7_2 + 1)), reS, reS, H', ⟨by have := HK1.out; have := HK2.out; omega⟩, dS⟩
       ·rw [if_neg c6] at H
        have c6b0 := bqF c6
        have c6b1 := bnT c6
        have H' := Y0.mk H
        clear H
        go_wp2
        go_roundg k2
        case measure => have := HK1.out; have := HK2.out; omega
        case rel => exact ⟨(x5_2 / 2), (wrap64 (x7_2 + 1)), reS, reS, H', ⟨by have := HK1.out; have := HK2.out; omega⟩, dS⟩
      ·rw [if_neg c5] at H
       have c5b0 := decide_eq_false c5
       clear c5
       have H' := Y0.mk H
       clear H
       go_wp2
       go_roundg k2
       case measure => have := HK1.out; have := HK2.out; omega
       case rel => exact ⟨(x5_2), (wrap64 (x6_1 + 1)), reS, reS, H', ⟨by have := HK1.out; have := HK2.out; omega⟩, dS⟩
   ·rw [if_neg c3] at H
    have c3b0 := decide_eq_false c3
    clear c3
    obtain rfl := Option.some.inj H
    go_wp2
    go_ret
    exact ⟨reS, dS⟩
def YT.f (k : Nat) (l0 : List Int) : Option (Int) := (Yb.f k 0 l0).bind fun t_0 => (some t_0)
theorem YT.mono : ∀ a0 k, LeO (YT.f k a0) (YT.f (k + 1) a0) := by
 intro a0 k
 unfold YT.f
 repeat' first
   | (with_reducible exact Yb.mono _ _ _)
   | (with_reducible exact LeO.refl _)
   | (with_reducible exact LeO.none _)
   | (with_reducible refine LeO.ite ?_ ?_)
   | (with_reducible refine LeO.bind ?_ (fun _ => ?_))
set_option maxHeartbeats 8000000 in
set_option maxRecDepth 100000 in
theorem YT.calls (k : Nat) (A0 : Option Addr) (c0 : Nat) (l0 : List Int) (r : Int) (w : World) (hr0 : Kd.C (Kd.int .u8) w A0 l0.length l0) (hc0 : l0.length ≤ c0) (h : YT.f k l0 = some r) :
  Calls Try.prog 120 #[.slice A0 l0.length c0] w fun e w' => e = .returned (.int .u32 r) ∧ Drawn0 w w' := by
 have HR0 := Y0.mk hr0
 have HC0 := Y0.mk hc0
 clear hr0 hc0
 have H : ((Yb.f k 0 l0).bind fun t_0 => (some t_0)) = some r := h
 clear h
 obtain ⟨t_0, A20, H⟩ := bS H
 replace H : (some t_0) = some r := H
 have A2 := Y0.mk A20
 clear A20
 obtain rfl := Option.some.inj H
 go_enter Try.func120, Try.ntmps120
 go_wp2_with (first | ((with_reducible refine Y8 (f := 119) rfl ?_); refine goesA (some 4) Try.func119 #[.int .u32 0, .slice A0 l0.length c0] ?_; (with_reducible refine (Yb.calls k 0 _ _ l0 t_0 _ ?side1 ?side2 A2.out).mono ?_); (case side1 => repeat (first | exact HR0.out | (with_reducible refine Kd.C_alloc ?_ _) | (with_reducible refine Kd.C_drewN ?_ _) | (with_reducible refine Kd.C_drew ?_))); (case side2 => exact HC0.out); rintro e w' ⟨rfl, ⟨nd, rfl⟩⟩; refine ⟨_, rfl, ?_⟩))
 go_ret
 exact ⟨reS, dS⟩
def Y17.f (a0 : Int) : Option (List Int) := some (([(Go.bits .and .u32 a0 255) % 256, (Go.bits .and .u32 (a0 / 256) 255) % 256, (Go.bits .and .u32 (a0 / 65536) 255) % 256, (a0 / 16777216) % 256] : List Int))
set_option maxHeartbeats 8000000 in
set_option maxRecDepth 100000 in
theorem Y17.calls (a0 : Int) (r : List Int) (w : World) (h : Y17.f a0 = some r) :
  Calls Try.prog 122 #[.int .u32 a0] w fun e w' => ∃ v0_ : Value, e = .returned (v0_) ∧ Kd.R (Kd.int .u8) 5 w' w.heap.size (fun _ => True) v0_ r ∧ Below w.heap.size w w' := by
 have HB := Y0.mk (Below.refl w.heap.size w)
 have H : (some (([(Go.bits .and .u32 a0 255) % 256, (Go.bits .and .u32 (a0 / 256) 255) % 256, (Go.bits .and .u32 (a0 / 65536) 255) % 256, (a0 / 16777216) % 256] : List Int))) = some r := h
 clear h
 obtain ⟨y1309, hy1309⟩ : ∃ y_ : List Int, y_ = (([(Go.bits .and .u32 a0 255) % 256, (Go.bits .and .u32 (a0 / 256) 255) % 256, (Go.bits .and .u32 (a0 / 65536) 255) % 256, (a0 / 16777216) % 256] : List Int)) := ⟨_, rfl⟩
 replace H : (some y1309) = some r := by first | (rw [hy1309]; with_reducible exact H) | (have H2_ := (Option.bind_some _ _).symm.trans H; rw [hy1309]; with_reducible exact H2_) | (have H2_ := (Option.bind_some _ _).symm.trans H; with_reducible exact H2_) | with_reducible exact H | (rw [hy1309]; exact H) | exact H
 have Ny1309 := Y0.mk hy1309
 clear hy1309
 obtain rfl := Option.some.inj H
 go_enter Try.func122, Try.ntmps122
 go_wp2_with (first | ((with_reducible refine Yl (N := 17) rfl ?_); refine Kd.R_lit (Kd.int .u8) _ 5 ?hg (N := 17) ?hd (xs := ([(Go.bits .and .u32 a0 255) % 256, (Go.bits .and .u32 (a0 / 256) 255) % 256, (Go.bits .and .u32 (a0 / 65536) 255) % 256, (a0 / 16777216) % 256] : List Int)) (inner := [.int .u8 ((Go.bits .and .u32 a0 255) % 256), .int .u8 ((Go.bits .and .u32 (a0 / 256) 255) % 256), .int .u8 ((Go.bits .and .u32 (a0 / 65536) 255) % 256), .int .u8 ((a0 / 16777216) % 256)]) (ok := fun _ => True) (okp := fun _ => True) ?hr ?hp (fun _ hk => hk) trivial (Below.refl _ _) (Nat.le_refl _) (by simp) ?_; (case hd => rfl); (case hg => rfl); (case hr => first | (go_simp; done) | (go_simp; rfl)); (case hp => exact (Reps.one (show Kd.M (Kd.int .u8) _ _ _ ((Go.bits .and .u32 a0 255) % 256) [.int .u8 ((Go.bits .and .u32 a0 255) % 256)] from rfl) (Reps.one (show Kd.M (Kd.int .u8) _ _ _ ((Go.bits .and .u32 (a0 / 256) 255) % 256) [.int .u8 ((Go.bits .and .u32 (a0 / 256) 255) % 256)] from rfl) (Reps.one (show Kd.M (Kd.int .u8) _ _ _ ((Go.bits .and .u32 (a0 / 65536) 255) % 256) [.int .u8 ((Go.bits .and .u32 (a0 / 65536) 255) % 256)] from rfl) (Reps.one (show Kd.M (Kd.int .u8) _ _ _ ((a0 / 16777216) % 256) [.int .u8 ((a0 / 16777216) % 256)] from rfl) (Reps.none _ _)))))); intro v_0 w2 ho3 hb hg_ hnew_; clear hg_ hnew_; (first | rw [← Ny1309.out] at ho3 | (simp only [Int.reduceToNat] at ho3; rw [← Ny1309.out] at ho3)); have n0_ := Y0.mk (Kd.R_lower ho3 (Yi (hU HB.out))); have n1_ := Y0.mk (Y4 (hU HB.out) hb); clear HB; have O_0 := n0_; have HB := n1_; clear n0_ n1_; clear hb ho3))
 go_ret
 exact ⟨_, reT, by (with_reducible repeat (first | apply Kd.R_alloc | apply Kd.R_drewN | apply Kd.R_drew)); exact O_0.out, hU HB.out⟩
def Yr.l0 : Nat → List Int → Int → Option (Int)
 | 0, _, _ => none
 | k + 1, x0, x3 => if x3 < (x0.length : Int) then (if 0 ≤ x3 then (if (rd x0 x3) < 128 then (some x3) else (Yr.l0 k x0 (wrap64 (x3 + 1)))) else (none)) else (some (-1))
def Yr.f (k : Nat) (l0 : List Int) : Option (Int) := Yr.l0 k l0 0
theorem Yr.mono_l : ∀ k, (∀ y0 y1, LeO (Yr.l0 k y0 y1) (Yr.l0 (k + 1) y0 y1))
 | 0 => fun _ _ r h => by simp [Yr.l0] at h
 | k + 1 => by
  have ih0 := Yr.mono_l k
  ·intro y0 y1
   unfold Yr.l0
   repeat' first
   | (with_reducible exact ih0 _ _)
   | (with_reducible exact LeO.refl _)
   | (with_reducible exact LeO.none _)
   | (with_reducible refine LeO.ite ?_ ?_)
   | (with_reducible refine LeO.bind ?_ (fun _ => ?_))
theorem Yr.mono : ∀ a0 k, LeO (Yr.f k a0) (Yr.f (k + 1) a0) := by
 intro a0 k
 have ih0 := Yr.mono_l k
 unfold Yr.f
 repeat' first
   | (with_reducible exact ih0 _ _)
   | (with_reducible exact LeO.refl _)
   | (with_reducible exact LeO.none _)
   | (with_reducible refine LeO.ite ?_ ?_)
   | (with_reducible refine LeO.bind ?_ (fun _ => ?_))
set_option maxHeartbeats 8000000 in
set_option maxRecDepth 100000 in
theorem Yr.calls (k : Nat) (A0 : Option Addr) (c0 : Nat) (l0 : List Int) (r : Int) (w : World) (hr0 : Kd.C (Kd.int .u8) w A0 l0.length l0) (hc0 : l0.length ≤ c0) (h : Yr.f k l0 = some r) :
  Calls Try.prog 149 #[.slice A0 l0.length c0] w fun e w' => e = .returned (.int .i64 r) ∧ Drawn0 w w' := by
 have HR0 := Y0.mk hr0
 have HC0 := Y0.mk hc0
 clear hr0 hc0
 have H : (Yr.l0 k l0 0) = some r := h
 clear h
 have H' := Y0.mk H
 clear H
 go_enter Try.func149, Try.ntmps149
 go_wp2
 go_loopg [3] k (fun kq v3 w' => ∃ (x3_1 : Int), v3 = .int .i64 x3_1 ∧ Y0 (Yr.l0 kq l0 x3_1 = some r) ∧ Y0 (kq ≤ k) ∧ Drawn0 w w')
 case atStart => exact ⟨(0), reS, H', ⟨Nat.le_refl _⟩, dS⟩
 case round =>
  clear H'
  try clear c1
  obtain ⟨x3_1, rfl, HA, HK1, ⟨m1, rfl⟩⟩ := hrel
  cases gk with
  | zero => exact absurd HA.out (by simp [Yr.l0])
  | succ k1 =>
   have H := HA.out
   clear HA
   simp only [Yr.l0] at H
   by_cases c2 : x3_1 < (l0.length : Int)
   ·rw [if_pos c2] at H
    have c2b0 := decide_eq_true c2
    clear c2
    obtain ⟨c3, H⟩ := iS H
    have c3b0 := decide_eq_true c3
    clear c3
    by_cases c4 : (rd l0 x3_1) < 128
    ·rw [if_pos c4] at H
     have c4b0 := decide_eq_true c4
     clear c4
     obtain rfl := Option.some.inj H
     have p1361 : 0 ≤ (x3_1 : Int) := of_decide_eq_true (by first | (with_reducible assumption) | assumption)
     have q1361 : x3_1 < (l0.length : Int) := of_decide_eq_true (by first | (with_reducible assumption) | assumption)
     obtain ⟨d_0, e1361, m_0⟩ := Kd.at_int HR0.out x3_1 p1361 q1361
     cases e1361
     replace p1361 := eq_true p1361
     replace q1361 := eq_true q1361
     go_wp2
     go_ret
     exact ⟨reS, dS⟩
    ·rw [if_neg c4] at H
     have c4b0 := decide_eq_false c4
     clear c4
     have H' := Y0.mk H
     clear H
     have p1361 : 0 ≤ (x3_1 : Int) := of_decide_eq_true (by first | (with_reducible assumption) | assumption)
     have q1361 : x3_1 < (l0.length : Int) := of_decide_eq_true (by first | (with_reducible assumption) | assumption)
     obtain ⟨d_0, e1361, m_0⟩ := Kd.at_int HR0.out x3_1 p1361 q1361
     cases e1361
     replace p1361 := eq_true p1361
     replace q1361 := eq_true q1361
     go_wp2
     go_roundg k1
     case measure => have := HK1.out; omega
     case rel => exact ⟨(wrap64 (x3_1 + 1)), reS, H', ⟨by have := HK1.out; omega⟩, dS⟩
   ·rw [if_neg c2] at H
    have c2b0 := decide_eq_false c2
    clear c2
    obtain rfl := Option.some.inj H
    go_wp2
    go_ret
    exact ⟨reS, dS⟩
mutual
def Y7.j0 : Nat → List Int → Int → Bool → Option (Int × Int × Int)
 | 0, _, _, _ => none
 | k + 1, x0, x5, x23 => if x23 = true then (some (0, 0, 12)) else (if x5 > 0 then (if 0 ≤ x5 then (if x5 < (x0.length : Int) then (Y7.j1 k x0 x5 ((rd x0 x5) == 0)) else (none)) else (none)) else (Y7.j1 k x0 x5 false))
def Y7.j1 : Nat → List Int → Int → Bool → Option (Int × Int × Int)
 | 0, _, _, _ => none
 | k + 1, x0, x5, x32 => if x32 = true then (some (0, 0, 2)) else (Y7.l0 k x0 x5 0 x5)
def Y7.l0 : Nat → List Int → Int → Int → Int → Option (Int × Int × Int)
 | 0, _, _, _, _ => none
 | k + 1, x0, x5, x6, x7 => if x7 ≥ 0 then (if 0 ≤ x7 then (if x7 < (x0.length : Int) then (Y7.l0 k x0 x5 (IntKind.u64.wrap ((IntKind.u64.wrap (x6 * 128)) + (IntKind.u64.wrap (Int.tmod (rd x0 x7) 128)))) (wrap64 (x7 - 1))) else (none)) else (none)) else (if (Int.tmod x6 2) = 1 then (some (wrap64 ((wrap64 (-(wrap64 (IntKind.u64.wrap (Int.tdiv x6 2))))) - 1), wrap64 (x5 + 1), 0)) else (some (wrap64 (IntKind.u64.wrap (Int.tdiv x6 2)), wrap64 (x5 + 1), 0)))
end
def Y7.f (k : Nat) (l0 : List Int) : Option (Int × Int × Int) := (Yr.f k l0).bind fun t_0 => (if t_0 < 0 then (some (0, 0, 13)) else (if t_0 > 9 then (Y7.j0 k l0 t_0 true) else (if t_0 = 9 then (if 9 < (l0.length : Int) then (Y7.j0 k l0 t_0 (decide ((rd l0 9) > 1))) else (none)) else (Y7.j0 k l0 t_0 false))))
theorem Y7.mono_l : ∀ k, (∀ y0 y1 y2, LeO (Y7.j0 k y0 y1 y2) (Y7.j0 (k + 1) y0 y1 y2)) ∧ (∀ y0 y1 y2, LeO (Y7.j1 k y0 y1 y2) (Y7.j1 (k + 1) y0 y1 y2)) ∧ (∀ y0 y1 y2 y3, LeO (Y7.l0 k y0 y1 y2 y3) (Y7.l0 (k + 1) y0 y1 y2 y3))
 | 0 => ⟨fun _ _ _ r h => by simp [Y7.j0] at h, fun _ _ _ r h => by simp [Y7.j1] at h, fun _ _ _ _ r h => by simp [Y7.l0] at h⟩
 | k + 1 => by
  obtain ⟨ih0, ih1, ih2⟩ := Y7.mono_l k
  refine ⟨?_, ?_, ?_⟩
  ·intro y0 y1 y2
   unfold Y7.j0
   repeat' first
   | (with_reducible exact ih0 _ _ _)
   | (with_reducible exact ih1 _ _ _)
   | (with_reducible exact ih2 _ _ _ _)
   | (with_reducible exact Yr.mono _ _)
   | (with_reducible exact LeO.refl _)
   | (with_reducible exact LeO.none _)
   | (with_reducible refine LeO.ite ?_ ?_)
   | (with_reducible refine LeO.bind ?_ (fun _ => ?_))
  ·intro y0 y1 y2
   unfold Y7.j1
   repeat' first
   | (with_reducible exact ih0 _ _ _)
   | (with_reducible exact ih1 _ _ _)
   | (with_reducible exact ih2 _ _ _ _)
   | (with_reducible exact Yr.mono _ _)
   | (with_reducible exact LeO.refl _)
   | (with_reducible exact LeO.none _)
   | (with_reducible refine LeO.ite ?_ ?_)
   | (with_reducible refine LeO.bind ?_ (fun _ => ?_))
  ·intro y0 y1 y2 y3
   unfold Y7.l0
   repeat' first
   | (with_reducible exact ih0 _ _ _)
   | (with_reducible exact ih1 _ _ _)
   | (with_reducible exact ih2 _ _ _ _)
   | (with_reducible exact Yr.mono _ _)
   | (with_reducible exact LeO.refl _)
   | (with_reducible exact LeO.none _)
   | (with_reducible refine LeO.ite ?_ ?_)
   | (with_reducible refine LeO.bind ?_ (fun _ => ?_))
theorem Y7.mono : ∀ a0 k, LeO (Y7.f k a0) (Y7.f (k + 1) a0) := by
 intro a0 k
 obtain ⟨ih0, ih1, ih2⟩ := Y7.mono_l k
 unfold Y7.f
 repeat' first
   | (with_reducible exact ih0 _ _ _)
   | (with_reducible exact ih1 _ _ _)
   | (with_reducible exact ih2 _ _ _ _)
   | (with_reducible exact Yr.mono _ _)
   | (with_reducible exact LeO.refl _)
   | (with_reducible exact LeO.none _)
   | (with_reducible refine LeO.ite ?_ ?_)
   | (with_reducible refine LeO.bind ?_ (fun _ => ?_))
set_option maxHeartbeats 8000000 in
set_option maxRecDepth 100000 in
theorem Y7.calls (k : Nat) (A0 : Option Addr) (c0 : Nat) (l0 : List Int) (r1 : Int) (r2 : Int) (r3 : Int) (w : World) (hr0 : Kd.C (Kd.int .u8) w A0 l0.length l0) (hc0 : l0.length ≤ c0) (h : Y7.f k l0 = some (r1, r2, r3)) :
  Calls Try.prog 118 #[.slice A0 l0.length c0] w fun e w' => e = .returned (.tuple #[.int .i64 r1, .int .i64 r2, .int .i64 r3]) ∧ Drawn0 w w' := by
 have HR0 := Y0.mk hr0
 have HC0 := Y0.mk hc0
 clear hr0 hc0
 have H : ((Yr.f k l0).bind fun t_0 => (if t_0 < 0 then (some (0, 0, 13)) else (if t_0 > 9 then (Y7.j0 k l0 t_0 true) else (if t_0 = 9 then (if 9 < (l0.length : Int) then (Y7.j0 k l0 t_0 (decide ((rd l0 9) > 1))) else (none)) else (Y7.j0 k l0 t_0 false))))) = some (r1, r2, r3) := h
 clear h
 obtain ⟨t_0, A20, H⟩ := bS H
 try dsimp only at H
 have A2 := Y0.mk A20
 clear A20
 by_cases c3 : t_0 < 0
 ·rw [if_pos c3] at H
  have c3b0 := decide_eq_true c3
  clear c3
  simp only [Option.some.injEq, Prod.mk.injEq] at H
  obtain ⟨rfl, rfl, rfl⟩ := H
  go_enter Try.func118, Try.ntmps118
  go_wp2_with (first | ((with_reducible refine Y8 (f := 149) rfl ?_); refine goesA (some 9) Try.func149 #[.slice A0 l0.length c0] ?_; (with_reducible refine (Yr.calls k _ _ l0 t_0 _ ?side1 ?side2 A2.out).mono ?_); (case side1 => repeat (first | exact HR0.out | (with_reducible refine Kd.C_alloc ?_ _) | (with_reducible refine Kd.C_drewN ?_ _) | (with_reducible refine Kd.C_drew ?_))); (case side2 => exact HC0.out); rintro e w' ⟨rfl, ⟨nd, rfl⟩⟩; refine ⟨_, rfl, ?_⟩))
  go_ret3
  exact ⟨reS, dS⟩
 ·rw [if_neg c3] at H
  have c3b0 := decide_eq_false c3
  clear c3
  have HC4 := Y0.mk H
  clear H
  go_enter Try.func118, Try.ntmps118
  go_upto_region 4 with (first | ((with_reducible refine Y8 (f := 149) rfl ?_); refine goesA (some 9) Try.func149 #[.slice A0 l0.length c0] ?_; (with_reducible refine (Yr.calls k _ _ l0 t_0 _ ?side1 ?side2 A2.out).mono ?_); (case side1 => repeat (first | exact HR0.out | (with_reducible refine Kd.C_alloc ?_ _) | (with_reducible refine Kd.C_drewN ?_ _) | (with_reducible refine Kd.C_drew ?_))); (case side2 => exact HC0.out); rintro e w' ⟨rfl, ⟨nd, rfl⟩⟩; refine ⟨_, rfl, ?_⟩))
  (try simp only [Act.put, List.setIfInBounds_toArray, List.set_cons_zero, List.set_cons_succ])
  go_cut [23] (fun v23 wc => ∃ (kq : Nat) (x23_3 : Bool), v23 = .bool x23_3 ∧ Y0 (Y7.j0 kq l0 t_0 x23_3 = some (r1, r2, r3)) ∧ Y0 (kq ≤ k) ∧ Drawn0 w wc)
  case first =>
   have H := HC4.out
   clear HC4
   by_cases c5 : t_0 > 9
   ·rw [if_pos c5] at H
    have c5b0 := decide_eq_true c5
    clear c5
    (first | rw [c5b0] | (simp only [i64_w, i32_w]; rw [c5b0]) | skip)
    have H' := Y0.mk H
    clear H
    go_wp2
    go_meet
    case rel => exact ⟨_, (true), reS, H', ⟨by first | omega | exact Nat.le_refl _⟩, dS⟩
   ·rw [if_neg c5] at H
    have c5b0 := decide_eq_false c5
    clear c5
    (first | rw [c5b0] | (simp only [i64_w, i32_w]; rw [c5b0]) | skip)
    by_cases c6 : t_0 = 9
    ·rw [if_pos c6] at H
     have c6b0 := bqT c6
     have c6b1 := bnF c6
     clear c6
     obtain ⟨c7, H⟩ := iS H
     have c7b0 := decide_eq_true c7
     have c7b1 : decide (9 < l0.length) = true := decide_eq_true (by omega)
     clear c7
     have H' := Y0.mk H
     clear H
     have p1363 : 0 ≤ (9 : Int) := (by omega)
     have q1363 : 9 < (l0.length : Int) := of_decide_eq_true (by first | (with_reducible assumption) | assumption)
     obtain ⟨d_1, e1363, m_0⟩ := Kd.at_int HR0.out 9 p1363 q1363
     cases e1363
     (try simp only [show (9 : Int).toNat = 9 from rfl, Nat.reduceMul, Nat.reduceEqDiff, Go.Addr.add, ↓reduceIte] at m_0)
     have qi1363 : (9 < l0.length) = True := eq_true (by omega)
     (try rw [show ((9 : Int)).toNat = 9 from rfl] at m_0)
     replace p1363 := eq_true p1363
     replace q1363 := eq_true q1363
     go_wp2
     go_meet
     case rel => exact ⟨_, (decide ((rd l0 9) > 1)), reS, H', ⟨by first | omega | exact Nat.le_refl _⟩, dS⟩
    ·rw [if_neg c6] at H
     have c6b0 := bqF c6
     have c6b1 := bnT c6
     have H' := Y0.mk H
     clear H
     go_wp2
     go_meet
     case rel => exact ⟨_, (false), reS, H', ⟨by first | omega | exact Nat.le_refl _⟩, dS⟩
  case rest =>
   clear HC4
   try clear c1
   try clear p1
   try clear q1
   try clear hx1
   try clear qi1
   try clear p2
   try clear c3
   try clear c3b0
   try clear c5
   try clear c5b0
   try clear c6
   try clear c6b0
   try clear c6b1
   try clear c7
   try clear c7b0
   try clear c7b1
   try clear m_0
   try clear p1363
   try clear q1363
   obtain ⟨kq, x23_3, rfl, HA, HJ3, ⟨mc3, rfl⟩⟩ := hcut
   cases kq with
   | zero => exact absurd HA.out (by simp [Y7.j0])
   | succ kj3 =>
    have H := HA.out
    clear HA
    simp only [Y7.j0] at H
    by_cases c8 : x23_3 = true
    ·subst c8
     have H1 : (some (0, 0, 12)) = some (r1, r2, r3) := by rw [if_pos rfl] at H; exact H
     clear H
     have H := H1
     clear H1
     simp only [Option.some.injEq, Prod.mk.injEq] at H
     obtain ⟨rfl, rfl, rfl⟩ := H
     go_wp2
     go_ret3
     exact ⟨reS, dS⟩
    ·replace c8 := Bool.eq_false_iff.mpr c8
     subst c8
     rw [if_neg (show ¬ (false = true) by decide)] at H
     have HC9 := Y0.mk H
     clear H
     go_upto_region 6 with (fail)
     go_cut [32] (fun v32 wc => ∃ (kq : Nat) (x32_8 : Bool), v32 = .bool x32_8 ∧ Y0 (Y7.j1 kq l0 t_0 x32_8 = some (r1, r2, r3)) ∧ Y0 (kq ≤ kj3) ∧ Drawn0 w wc)
     case first =>
      have H := HC9.out
      clear HC9
      by_cases c10 : t_0 > 0
      ·rw [if_pos c10] at H
       have c10b0 := decide_eq_true c10
       clear c10
       (first | rw [c10b0] | (simp only [i64_w, i32_w]; rw [c10b0]) | skip)
       obtain ⟨c11, H⟩ := iS H
       have c11b0 := decide_eq_true c11
       clear c11
       obtain ⟨c12, H⟩ := iS H
       have c12b0 := decide_eq_true c12
       clear c12
       have H' := Y0.mk H
       clear H
       have p1364 : 0 ≤ (t_0 : Int) := of_decide_eq_true (by first | (with_reducible assumption) | assumption)
       have q1364 : t_0 < (l0.length : Int) := of_decide_eq_true (by first | (with_reducible assumption) | assumption)
       obtain ⟨d_2, e1364, m_1⟩ := Kd.at_int HR0.out t_0 p1364 q1364
       cases e1364
       replace p1364 := eq_true p1364
       replace q1364 := eq_true q1364
       go_wp2
       go_meet
       case rel => exact ⟨_, (((rd l0 t_0) == 0)), reS, H', ⟨by have := HJ3.out; first | omega | exact Nat.le_refl _⟩, dS⟩
      ·rw [if_neg c10] at H
       have c10b0 := decide_eq_false c10
       clear c10
       (first | rw [c10b0] | (simp only [i64_w, i32_w]; rw [c10b0]) | skip)
       have H' := Y0.mk H
       clear H
       go_wp2
       go_meet
       case rel => exact ⟨_, (false), reS, H', ⟨by have := HJ3.out; first | omega | exact Nat.le_refl _⟩, dS⟩
     case rest =>
      clear HC9
      try clear c1
      try clear p1
      try clear q1
      try clear hx1
      try clear qi1
      try clear p2
      try clear c3
      try clear c3b0
      try clear c5
      try clear c5b0
      try clear c6
      try clear c6b0
      try clear c6b1
      try clear c7
      try clear c7b0
      try clear c7b1
      try clear c8
      try clear c10
      try clear c10b0
      try clear c11
      try clear c11b0
      try clear c12
      try clear c12b0
      try clear m_0
      try clear m_1
      try clear p1
      try clear p1363
      try clear p1364
      try clear p2
      try clear q1
      try clear q1363
      try clear q1364
      obtain ⟨kq, x32_8, rfl, HA, HJ8, ⟨mc8, rfl⟩⟩ := hcut
      cases kq with
      | zero => exact absurd HA.out (by simp [Y7.j1])
      | succ kj8 =>
       have H := HA.out
       clear HA
       simp only [Y7.j1] at H
       by_cases c13 : x32_8 = true
       ·subst c13
        have H1 : (some (0, 0, 2)) = some (r1, r2, r3) := by rw [if_pos rfl] at H; exact H
        clear H
        have H := H1
        clear H1
        simp only [Option.some.injEq, Prod.mk.injEq] at H
        obtain ⟨rfl, rfl, rfl⟩ := H
        go_wp2
        go_ret3
        exact ⟨reS, dS⟩
       ·replace c13 := Bool.eq_false_iff.mpr c13
        subst c13
        have H1 : (Y7.l0 kj8 l0 t_0 0 t_0) = some (r1, r2, r3) := by rw [if_neg (show ¬ (false = true) by decide)] at H; exact H
        clear H
        have H := H1
        clear H1
        have H' := Y0.mk H
        clear H
        go_wp2
        go_loopg [6, 7] kj8 (fun kq v6 v7 w' => ∃ (x6_3 : Int) (x7_3 : Int), v6 = .int .u64 x6_3 ∧ v7 = .int .i64 x7_3 ∧ Y0 (Y7.l0 kq l0 t_0 x6_3 x7_3 = some (r1, r2, r3)) ∧ Y0 (kq ≤ kj8) ∧ Drawn0 w w')
        case atStart => exact ⟨(0), (t_0), reS, reS, H', ⟨Nat.le_refl _⟩, dS⟩
        case round =>
         clear H'
         try clear c1
         try clear p1
         try clear q1
         try clear hx1
         try clear qi1
         try clear p2
         try clear c3
         try clear c3b0
         try clear c5
         try clear c5b0
         try clear c6
         try clear c6b0
         try clear c6b1
         try clear c7
         try clear c7b0
         try clear c7b1
         try clear c8
         try clear c10
         try clear c10b0
         try clear c11
         try clear c11b0
         try clear c12
         try clear c12b0
         try clear c13
         try clear p13
         try clear q13
         try clear hx13
         try clear qi13
         try clear m_0
         try clear m_1
         try clear p1
         try clear p1363
         try clear p1364
         try clear p2
         try clear q1
         try clear q1363
         try clear q1364
         obtain ⟨x6_3, x7_3, rfl, rfl, HA, HK3, ⟨m3, rfl⟩⟩ := hrel
         cases gk with
         | zero => exact absurd HA.out (by simp [Y7.l0])
         | succ k3 =>
          have H := HA.out
          clear HA
          simp only [Y7.l0] at H
          by_cases c14 : x7_3 ≥ 0
          ·rw [if_pos c14] at H
           have c14b0 := decide_eq_true c14
           clear c14
           obtain ⟨c15, H⟩ := iS H
           have c15b0 := decide_eq_true c15
           clear c15
           obtain ⟨c16, H⟩ := iS H
           have c16b0 := decide_eq_true c16
           clear c16
           have H' := Y0.mk H
           clear H
           have p1365 : 0 ≤ (x7_3 : Int) := of_decide_eq_true (by first | (with_reducible assumption) | assumption)
           have q1365 : x7_3 < (l0.length : Int) := of_decide_eq_true (by first | (with_reducible assumption) | assumption)
           obtain ⟨d_0, e1365, m_2⟩ := Kd.at_int HR0.out x7_3 p1365 q1365
           cases e1365
           replace p1365 := eq_true p1365
           replace q1365 := eq_true q1365
           go_wp2
           go_roundg k3
           case measure => have := HJ3.out; have := HJ8.out; have := HK3.out; omega
           case rel => exact ⟨(IntKind.u64.wrap ((IntKind.u64.wrap (x6_3 * 128)) + (IntKind.u64.wrap (Int.tmod (rd l0 x7_3) 128)))), (wrap64 (x7_3 - 1)), reS, reS, H', ⟨by have := HJ3.out; have := HJ8.out; have := HK3.out; omega⟩, dS⟩
          ·rw [if_neg c14] at H
           have c14b0 := decide_eq_false c14
           clear c14
           by_cases c17 : (Int.tmod x6_3 2) = 1
           ·rw [if_pos c17] at H
            have c17b0 := bqT c17
            have c17b1 := bnF c17
            clear c17
            simp only [Option.some.injEq, Prod.mk.injEq] at H
            obtain ⟨rfl, rfl, rfl⟩ := H
            go_wp2
            go_ret3
            exact ⟨reS, dS⟩
           ·rw [if_neg c17] at H
            have c17b0 := bqF c17
            have c17b1 := bnT c17
            simp only [Option.some.injEq, Prod.mk.injEq] at H
            obtain ⟨rfl, rfl, rfl⟩ := H
            go_wp2
            go_ret3
            exact ⟨reS, dS⟩
def Y1c.f (l0 : List Int) (l1 : List Int) : Option (Bool) := some ((strOfNums l0).toList == (strOfNums l1).toList)
set_option maxHeartbeats 8000000 in
set_option maxRecDepth 100000 in
theorem Y1c.calls (A0 : Option Addr) (c0 : Nat) (l0 : List Int) (A1 : Option Addr) (c1 : Nat) (l1 : List Int) (r : Bool) (w : World) (hr0 : Kd.C (Kd.int .u8) w A0 l0.length l0) (hc0 : l0.length ≤ c0) (hr1 : Kd.C (Kd.int .u8) w A1 l1.length l1) (hc1 : l1.length ≤ c1) (h : Y1c.f l0 l1 = some r) :
  Calls Try.prog 121 #[.slice A0 l0.length c0, .slice A1 l1.length c1] w fun e w' => e = .returned (.bool r) ∧ Drawn0 w w' := by
 have HR0 := Y0.mk hr0
 have HC0 := Y0.mk hc0
 clear hr0 hc0
 have HR1 := Y0.mk hr1
 have HC1 := Y0.mk hc1
 clear hr1 hc1
 have H : (some ((strOfNums l0).toList == (strOfNums l1).toList)) = some r := h
 clear h
 obtain rfl := Option.some.inj H
 have hcv3 := Kd.C_string (P := Try.prog) (A := A0) (c := c0) Try.underlying60 Try.underlying5 Try.underlying9 HR0.out
 have hcv4 := Kd.C_string (P := Try.prog) (A := A1) (c := c1) Try.underlying60 Try.underlying5 Try.underlying9 HR1.out
 go_enter Try.func121, Try.ntmps121
 go_wp2
 go_ret
 exact ⟨reS, dS⟩
end Go.Proofs.Yteopkkoblbmggaa.P
end

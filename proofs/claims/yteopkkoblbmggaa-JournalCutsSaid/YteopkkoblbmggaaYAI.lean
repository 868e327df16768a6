/- Texts of this claim in one: P63, P64, MapS, MapT, Found, VSymP, VChkE; no condition. -/
import Derived.Test.YteopkkoblbmggaaYAD
import Derived.Test.YteopkkoblbmggaaYAH
import Derived.Maps.OwnSet
import Derived.Maps.OwnOps
import Derived.DeepKeys4
import Derived.Deep.Light
import Derived.WalkSpells
import Derived.Test.YteopkkoblbmggaaYAE
import Derived.Test.YteopkkoblbmggaaYAF
section
namespace Go.Proofs.Yteopkkoblbmggaa.P
open Go.RowKit Go.Proofs.YteopkkoblbmggaaW.PrintWords Go.Proofs.YteopkkoblbmggaaW.PrintLast Go.Proofs.YteopkkoblbmggaaW.PrintMore
attribute [local go_sem] max2_int min2_int max_two min_two max_three min_three max_four min_four
set_option linter.unusedVariables false
set_option linter.unusedSimpArgs false
attribute [local go_sem high] eqA30
/-! ### dancestudioref58_Edits: function 48 -/
def dancestudioref58_Edits.l0 : Nat → List (S30) → List (S30) → Int → Option (Bool)
 | 0, _, _, _ => none
 | k + 1, x0, x1, x5 => if x5 < (x0.length : Int) then (if 0 ≤ x5 then (if x5 < (x1.length : Int) then (if ((!(((rd_T30 x0 x5).f0.f0) == ((rd_T30 x1 x5).f0.f0)) || (!(((rd_T30 x0 x5).f0.f1) == ((rd_T30 x1 x5).f0.f1)))) || (!(((rd_T30 x0 x5).f1) == ((rd_T30 x1 x5).f1)) || ((!(((rd_T30 x0 x5).f2.f0) == ((rd_T30 x1 x5).f2.f0)) || (!(((rd_T30 x0 x5).f2.f1) == ((rd_T30 x1 x5).f2.f1)))) || (!(((rd_T30 x0 x5).f3) == ((rd_T30 x1 x5).f3)) || ((!(((rd_T30 x0 x5).f4.f0) == ((rd_T30 x1 x5).f4.f0)) || (!(((rd_T30 x0 x5).f4.f1) == ((rd_T30 x1 x5).f4.f1)) || (!(((rd_T30 x0 x5).f4.f2) == ((rd_T30 x1 x5).f4.f2)) || (!(((rd_T30 x0 x5).f4.f3) == ((rd_T30 x1 x5).f4.f3)) || (!(((rd_T30 x0 x5).f4.f4) == ((rd_T30 x1 x5).f4.f4)) || (!(((rd_T30 x0 x5).f4.f5) == ((rd_T30 x1 x5).f4.f5)) || (!(((rd_T30 x0 x5).f4.f6) == ((rd_T30 x1 x5).f4.f6)))))))))))))) = true then (some false) else (dancestudioref58_Edits.l0 k x0 x1 (wrap64 (x5 + 1)))) else (none)) else (none)) else (some true)
def dancestudioref58_Edits.f (k : Nat) (l0 : List (S30)) (l1 : List (S30)) : Option (Bool) := if (l0.length : Int) = (l1.length : Int) then (dancestudioref58_Edits.l0 k l0 l1 0) else (some false)
theorem dancestudioref58_Edits.mono_l : ∀ k, (∀ y0 y1 y2, LeO (dancestudioref58_Edits.l0 k y0 y1 y2) (dancestudioref58_Edits.l0 (k + 1) y0 y1 y2))
 | 0 => fun _ _ _ r h => by simp [dancestudioref58_Edits.l0] at h
 | k + 1 => by
  have ih0 := dancestudioref58_Edits.mono_l k
  ·intro y0 y1 y2
   unfold dancestudioref58_Edits.l0
   repeat' first
   | (with_reducible exact ih0 _ _ _)
   | (with_reducible exact LeO.refl _)
   | (with_reducible exact LeO.none _)
   | (with_reducible refine LeO.ite ?_ ?_)
   | (with_reducible refine LeO.bind ?_ (fun _ => ?_))
   | exact ih0 _ _ _
   | exact LeO.none _
   | refine LeO.ite ?_ ?_
   | refine LeO.bind ?_ (fun _ => ?_)
theorem dancestudioref58_Edits.mono : ∀ a0 a1 k, LeO (dancestudioref58_Edits.f k a0 a1) (dancestudioref58_Edits.f (k + 1) a0 a1) := by
 intro a0 a1 k
 have ih0 := dancestudioref58_Edits.mono_l k
 unfold dancestudioref58_Edits.f
 repeat' first
   | (with_reducible exact ih0 _ _ _)
   | (with_reducible exact LeO.refl _)
   | (with_reducible exact LeO.none _)
   | (with_reducible refine LeO.ite ?_ ?_)
   | (with_reducible refine LeO.bind ?_ (fun _ => ?_))
   | exact ih0 _ _ _
   | exact LeO.none _
   | refine LeO.ite ?_ ?_
   | refine LeO.bind ?_ (fun _ => ?_)
set_option maxHeartbeats 8000000 in
set_option maxRecDepth 100000 in
theorem dancestudioref58_Edits.calls (k : Nat) (A0 : Option Addr) (c0 : Nat) (l0 : List (S30)) (A1 : Option Addr) (c1 : Nat) (l1 : List (S30)) (r : Bool) (w : World) (hr0 : Kd.C k30 w A0 l0.length l0) (hc0 : l0.length ≤ c0) (hr1 : Kd.C k30 w A1 l1.length l1) (hc1 : l1.length ≤ c1) (h : dancestudioref58_Edits.f k l0 l1 = some r) :
  Calls Try.prog 48 #[.slice A0 l0.length c0, .slice A1 l1.length c1] w fun e w' => e = .returned (.bool r) ∧ Drawn0 w w' := by
 have hu30 := Try.underlying30
 have HR0 := Aside0.mk hr0
 have HC0 := Aside0.mk hc0
 clear hr0 hc0
 have HR1 := Aside0.mk hr1
 have HC1 := Aside0.mk hc1
 clear hr1 hc1
 have H : (if (l0.length : Int) = (l1.length : Int) then (dancestudioref58_Edits.l0 k l0 l1 0) else (some false)) = some r := h
 clear h
 by_cases c3 : (l0.length : Int) = (l1.length : Int)
 ·rw [if_pos c3] at H
  have c3b0 : ((l0.length : Int) == (l1.length : Int)) = true := beq_iff_eq.mpr c3
  have c3b1 : ((l0.length : Int) != (l1.length : Int)) = false := bne_eq_false_iff_eq.mpr c3
  have c3b2 : (l0.length == l1.length) = true := by first | simpa using c3 | (simp at c3 ⊢; omega)
  clear c3
  have H' := Aside0.mk H
  clear H
  go_enter Try.func48, Try.ntmps48
  go_wp2
  repeat (go_quiet (fail); try go_wp2)
  go_loopg [5] k (fun kq v5 w' => ∃ (x5_1 : Int), v5 = .int .i64 x5_1 ∧ Aside0 (dancestudioref58_Edits.l0 kq l0 l1 x5_1 = some r) ∧ Aside0 (kq ≤ k) ∧ Drawn0 w w')
  case atStart => exact ⟨(0), (by first | rfl | (simp; done) | (simp [*]; done)), H', ⟨Nat.le_refl _⟩, by repeat (first | exact Drawn0.refl _ | apply Drawn0.step)⟩
  case round =>
   clear H'
   try clear c1
   try clear p2
   try clear c3
   try clear c3b0
   try clear c3b1
   try clear c3b2
   obtain ⟨x5_1, rfl, HA, HK1, ⟨m1, rfl⟩⟩ := hrel
   cases gk with
   | zero => exact absurd HA.out (by simp [dancestudioref58_Edits.l0])
   | succ k1 =>
    have H := HA.out
    clear HA
    simp only [dancestudioref58_Edits.l0] at H
    by_cases c4 : x5_1 < (l0.length : Int)
    ·rw [if_pos c4] at H
     have c4b0 : decide (x5_1 < (l0.length : Int)) = true := decide_eq_true c4
     clear c4
     by_cases c5 : 0 ≤ x5_1
     rotate_left
     ·rw [if_neg c5] at H
      exact absurd H (by simp)
     rw [if_pos c5] at H
     have c5b0 : decide (0 ≤ x5_1) = true := decide_eq_true c5
     clear c5
     by_cases c6 : x5_1 < (l1.length : Int)
     rotate_left
     ·rw [if_neg c6] at H
      exact absurd H (by simp)
     rw [if_pos c6] at H
     have c6b0 : decide (x5_1 < (l1.length : Int)) = true := decide_eq_true c6
     clear c6
     by_cases c7 : ((!(((rd_T30 l0 x5_1).f0.f0) == ((rd_T30 l1 x5_1).f0.f0)) || (!(((rd_T30 l0 x5_1).f0.f1) == ((rd_T30 l1 x5_1).f0.f1)))) || (!(((rd_T30 l0 x5_1).f1) == ((rd_T30 l1 x5_1).f1)) || ((!(((rd_T30 l0 x5_1).f2.f0) == ((rd_T30 l1 x5_1).f2.f0)) || (!(((rd_T30 l0 x5_1).f2.f1) == ((rd_T30 l1 x5_1).f2.f1)))) || (!(((rd_T30 l0 x5_1).f3) == ((rd_T30 l1 x5_1).f3)) || ((!(((rd_T30 l0 x5_1).f4.f0) == ((rd_T30 l1 x5_1).f4.f0)) || (!(((rd_T30 l0 x5_1).f4.f1) == ((rd_T30 l1 x5_1).f4.f1)) || (!(((rd_T30 l0 x5_1).f4.f2) == ((rd_T30 l1 x5_1).f4.f2)) || (!(((rd_T30 l0 x5_1).f4.f3) == ((rd_T30 l1 x5_1).f4.f3)) || (!(((rd_T30 l0 x5_1).f4.f4) == ((rd_T30 l1 x5_1).f4.f4)) || (!(((rd_T30 l0 x5_1).f4.f5) == ((rd_T30 l1 x5_1).f4.f5)) || (!(((rd_T30 l0 x5_1).f4.f6) == ((rd_T30 l1 x5_1).f4.f6)))))))))))))) = true
     ·rw [if_pos c7] at H
      have c7b0 : ((!(((rd_T30 l0 x5_1).f0.f0) == ((rd_T30 l1 x5_1).f0.f0)) || (!(((rd_T30 l0 x5_1).f0.f1) == ((rd_T30 l1 x5_1).f0.f1)))) || (!(((rd_T30 l0 x5_1).f1) == ((rd_T30 l1 x5_1).f1)) || ((!(((rd_T30 l0 x5_1).f2.f0) == ((rd_T30 l1 x5_1).f2.f0)) || (!(((rd_T30 l0 x5_1).f2.f1) == ((rd_T30 l1 x5_1).f2.f1)))) || (!(((rd_T30 l0 x5_1).f3) == ((rd_T30 l1 x5_1).f3)) || ((!(((rd_T30 l0 x5_1).f4.f0) == ((rd_T30 l1 x5_1).f4.f0)) || (!(((rd_T30 l0 x5_1).f4.f1) == ((rd_T30 l1 x5_1).f4.f1)) || (!(((rd_T30 l0 x5_1).f4.f2) == ((rd_T30 l1 x5_1).f4.f2)) || (!(((rd_T30 l0 x5_1).f4.f3) == ((rd_T30 l1 x5_1).f4.f3)) || (!(((rd_T30 l0 x5_1).f4.f4) == ((rd_T30 l1 x5_1).f4.f4)) || (!(((rd_T30 l0 x5_1).f4.f5) == ((rd_T30 l1 x5_1).f4.f5)) || (!(((rd_T30 l0 x5_1).f4.f6) == ((rd_T30 l1 x5_1).f4.f6)))))))))))))) = true := c7
      clear c7
      obtain rfl := Option.some.inj H
      have p1100 : 0 ≤ (x5_1 : Int) := of_decide_eq_true (by first | (with_reducible assumption) | assumption)
      have q1100 : x5_1 < (l0.length : Int) := of_decide_eq_true (by first | (with_reducible assumption) | assumption)
      obtain ⟨ad1100, e1100, hx1100_0, hx1100_1, hx1100_2, hx1100_3, hx1100_4, hx1100_5, hx1100_6, hx1100_7, hx1100_8, hx1100_9, hx1100_10, hx1100_11, hx1100_12⟩ := at_T30 HR0.out x5_1 p1100 q1100
      cases e1100
      replace p1100 := eq_true p1100
      replace q1100 := eq_true q1100
      have p1101 : 0 ≤ (x5_1 : Int) := of_decide_eq_true (by first | (with_reducible assumption) | assumption)
      have q1101 : x5_1 < (l1.length : Int) := of_decide_eq_true (by first | (with_reducible assumption) | assumption)
      obtain ⟨ad1101, e1101, hx1101_0, hx1101_1, hx1101_2, hx1101_3, hx1101_4, hx1101_5, hx1101_6, hx1101_7, hx1101_8, hx1101_9, hx1101_10, hx1101_11, hx1101_12⟩ := at_T30 HR1.out x5_1 p1101 q1101
      cases e1101
      replace p1101 := eq_true p1101
      replace q1101 := eq_true q1101
      go_wp2
      repeat (go_quiet (fail); try go_wp2)
      go_ret
      exact ⟨by first | rfl | (simp; done) | (simp [*]; done), by repeat (first | exact Drawn0.refl _ | apply Drawn0.step)⟩
     ·rw [if_neg c7] at H
      have c7b0 : ((!(((rd_T30 l0 x5_1).f0.f0) == ((rd_T30 l1 x5_1).f0.f0)) || (!(((rd_T30 l0 x5_1).f0.f1) == ((rd_T30 l1 x5_1).f0.f1)))) || (!(((rd_T30 l0 x5_1).f1) == ((rd_T30 l1 x5_1).f1)) || ((!(((rd_T30 l0 x5_1).f2.f0) == ((rd_T30 l1 x5_1).f2.f0)) || (!(((rd_T30 l0 x5_1).f2.f1) == ((rd_T30 l1 x5_1).f2.f1)))) || (!(((rd_T30 l0 x5_1).f3) == ((rd_T30 l1 x5_1).f3)) || ((!(((rd_T30 l0 x5_1).f4.f0) == ((rd_T30 l1 x5_1).f4.f0)) || (!(((rd_T30 l0 x5_1).f4.f1) == ((rd_T30 l1 x5_1).f4.f1)) || (!(((rd_T30 l0 x5_1).f4.f2) == ((rd_T30 l1 x5_1).f4.f2)) || (!(((rd_T30 l0 x5_1).f4.f3) == ((rd_T30 l1 x5_1).f4.f3)) || (!(((rd_T30 l0 x5_1).f4.f4) == ((rd_T30 l1 x5_1).f4.f4)) || (!(((rd_T30 l0 x5_1).f4.f5) == ((rd_T30 l1 x5_1).f4.f5)) || (!(((rd_T30 l0 x5_1).f4.f6) == ((rd_T30 l1 x5_1).f4.f6)))))))))))))) = false := by simpa using c7
      clear c7
      have H' := Aside0.mk H
      clear H
      have p1100 : 0 ≤ (x5_1 : Int) := of_decide_eq_true (by first | (with_reducible assumption) | assumption)
      have q1100 : x5_1 < (l0.length : Int) := of_decide_eq_true (by first | (with_reducible assumption) | assumption)
      obtain ⟨ad1100, e1100, hx1100_0, hx1100_1, hx1100_2, hx1100_3, hx1100_4, hx1100_5, hx1100_6, hx1100_7, hx1100_8, hx1100_9, hx1100_10, hx1100_11, hx1100_12⟩ := at_T30 HR0.out x5_1 p1100 q1100
      cases e1100
      replace p1100 := eq_true p1100
      replace q1100 := eq_true q1100
      have p1101 : 0 ≤ (x5_1 : Int) := of_decide_eq_true (by first | (with_reducible assumption) | assumption)
      have q1101 : x5_1 < (l1.length : Int) := of_decide_eq_true (by first | (with_reducible assumption) | assumption)
      obtain ⟨ad1101, e1101, hx1101_0, hx1101_1, hx1101_2, hx1101_3, hx1101_4, hx1101_5, hx1101_6, hx1101_7, hx1101_8, hx1101_9, hx1101_10, hx1101_11, hx1101_12⟩ := at_T30 HR1.out x5_1 p1101 q1101
      cases e1101
      replace p1101 := eq_true p1101
      replace q1101 := eq_true q1101
      go_wp2
      repeat (go_quiet (fail); try go_wp2)
      go_roundg k1
      case measure => have := HK1.out; omega
      case rel => exact ⟨(wrap64 (x5_1 + 1)), (by first | rfl | (simp; done) | (simp [*]; done)), H', ⟨by have := HK1.out; omega⟩, by repeat (first | exact Drawn0.refl _ | apply Drawn0.step)⟩
    ·rw [if_neg c4] at H
     have c4b0 : decide (x5_1 < (l0.length : Int)) = false := decide_eq_false c4
     clear c4
     obtain rfl := Option.some.inj H
     go_wp2
     repeat (go_quiet (fail); try go_wp2)
     go_ret
     exact ⟨by first | rfl | (simp; done) | (simp [*]; done), by repeat (first | exact Drawn0.refl _ | apply Drawn0.step)⟩
 ·rw [if_neg c3] at H
  have c3b0 : ((l0.length : Int) == (l1.length : Int)) = false := beq_eq_false_iff_ne.mpr c3
  have c3b1 : ((l0.length : Int) != (l1.length : Int)) = true := bne_iff_ne.mpr c3
  have c3b2 : (l0.length == l1.length) = false := by first | simpa using c3 | (simp at c3 ⊢; omega)
  obtain rfl := Option.some.inj H
  go_enter Try.func48, Try.ntmps48
  go_wp2
  repeat (go_quiet (fail); try go_wp2)
  go_ret
  exact ⟨by first | rfl | (simp; done) | (simp [*]; done), by repeat (first | exact Drawn0.refl _ | apply Drawn0.step)⟩

/-! ### dancestudioref58_Same: function 43 -/
def dancestudioref58_Same.f (k : Nat) (a0_0 : Int) (l0_1 : List (S30)) (a1_0 : Int) (l1_1 : List (S30)) : Option (Bool) := if a0_0 = a1_0 then ((dancestudioref58_Edits.f k l0_1 l1_1).bind fun t1104 => (some t1104)) else (some false)
theorem dancestudioref58_Same.mono : ∀ a0 a1 a2 a3 k, LeO (dancestudioref58_Same.f k a0 a1 a2 a3) (dancestudioref58_Same.f (k + 1) a0 a1 a2 a3) := by
 intro a0 a1 a2 a3 k
 unfold dancestudioref58_Same.f
 repeat' first
   | (with_reducible exact dancestudioref58_Edits.mono _ _ _)
   | (with_reducible exact LeO.refl _)
   | (with_reducible exact LeO.none _)
   | (with_reducible refine LeO.ite ?_ ?_)
   | (with_reducible refine LeO.bind ?_ (fun _ => ?_))
   | exact dancestudioref58_Edits.mono _ _ _
   | exact LeO.none _
   | refine LeO.ite ?_ ?_
   | refine LeO.bind ?_ (fun _ => ?_)
set_option maxHeartbeats 8000000 in
set_option maxRecDepth 100000 in
theorem dancestudioref58_Same.calls (k : Nat) (a0_0 : Int) (A0_1 : Option Addr) (c0_1 : Nat) (l0_1 : List (S30)) (a1_0 : Int) (A1_1 : Option Addr) (c1_1 : Nat) (l1_1 : List (S30)) (r : Bool) (w : World) (hr0_1 : Kd.C k30 w A0_1 l0_1.length l0_1) (hc0_1 : l0_1.length ≤ c0_1) (hr1_1 : Kd.C k30 w A1_1 l1_1.length l1_1) (hc1_1 : l1_1.length ≤ c1_1) (h : dancestudioref58_Same.f k a0_0 l0_1 a1_0 l1_1 = some r) :
  Calls Try.prog 43 #[.agg #[.int .i64 a0_0, .slice A0_1 l0_1.length c0_1], .agg #[.int .i64 a1_0, .slice A1_1 l1_1.length c1_1]] w fun e w' => e = .returned (.bool r) ∧ Below w.heap.size w w' := by
 have hu24 := Try.underlying24
 have HR0_1 := Aside0.mk hr0_1
 have HC0_1 := Aside0.mk hc0_1
 clear hr0_1 hc0_1
 have HR1_1 := Aside0.mk hr1_1
 have HC1_1 := Aside0.mk hc1_1
 clear hr1_1 hc1_1
 have HB := Aside0.mk (Below.refl w.heap.size w)
 have H : (if a0_0 = a1_0 then ((dancestudioref58_Edits.f k l0_1 l1_1).bind fun t1104 => (some t1104)) else (some false)) = some r := h
 clear h
 by_cases c3 : a0_0 = a1_0
 ·rw [if_pos c3] at H
  have c3b0 : (a0_0 == a1_0) = true := beq_iff_eq.mpr c3
  have c3b1 : (a0_0 != a1_0) = false := bne_eq_false_iff_eq.mpr c3
  clear c3
  replace H := Option.bind_eq_some_iff.mp H
  obtain ⟨t1104, A40, H⟩ := H
  replace H : (some t1104) = some r := H
  have A4 := Aside0.mk A40
  clear A40
  obtain rfl := Option.some.inj H
  go_enter Try.func43, Try.ntmps43
  go_wp2_with (first | ((with_reducible refine gate_dst (N := 2) rfl ?_); refine box_event ?hg (N := 2) ?hd (cs := #[.int .i64 a0_0, .slice A0_1 l0_1.length c0_1]) (t := 24) ?hr ?_; (case hd => rfl); (case hg => rfl); (case hr => first | (go_simp; done) | (go_simp; rfl)); intro gb1102 hg w5 hbox hb; have n0_ := Aside0.mk (below_step (hU HB.out) hb); have n1_ := Aside0.mk (hbox); have n2_ := Aside0.mk ((by rw [hg]; exact (below_size (hU HB.out)) : w.heap.size ≤ gb1102)); have n3_ := Aside0.mk ((by rw [hg]; exact (below_size (hU HB.out)) : w.heap.size ≤ gb1102)); clear HB; have HB := n0_; have BK1102 := n1_; have GW1102 := n2_; have GE1102 := n3_; clear n0_ n1_ n2_ n3_; clear hb hbox hg) | ((with_reducible refine gate_dst (N := 3) rfl ?_); refine box_event ?hg (N := 3) ?hd (cs := #[.int .i64 a1_0, .slice A1_1 l1_1.length c1_1]) (t := 24) ?hr ?_; (case hd => rfl); (case hg => rfl); (case hr => first | (go_simp; done) | (go_simp; rfl)); intro gb1103 hg w6 hbox hb; have n0_ := Aside0.mk (blk_below (bU BK1102.out) hb); have n1_ := Aside0.mk (below_step (hU HB.out) hb); have n2_ := Aside0.mk (hbox); have n3_ := Aside0.mk ((by rw [hg]; exact (below_size (hU HB.out)) : w.heap.size ≤ gb1103)); have n4_ := Aside0.mk ((by rw [hg]; exact (below_size (hU HB.out)) : w.heap.size ≤ gb1103)); have n5_ := Aside0.mk ((by rw [hg]; exact Nat.ne_of_lt (blk_lt (bU BK1102.out)) : gb1102 ≠ gb1103)); have n6_ := Aside0.mk ((by rw [hg]; exact Nat.ne_of_gt (blk_lt (bU BK1102.out)) : gb1103 ≠ gb1102)); clear BK1102; clear HB; have BK1102 := n0_; have HB := n1_; have BK1103 := n2_; have GW1103 := n3_; have GE1103 := n4_; have NB1102_1103 := n5_; have NB1103_1102 := n6_; clear n0_ n1_ n2_ n3_ n4_ n5_ n6_; clear hb hbox hg; have hnb7 := NB1102_1103.out; have hnc7 := NB1103_1102.out; have hcz8_0 := blk_cell BK1102.out; have hfz8_0 := blk_frozen BK1102.out; have hcz9_0 := blk_cell BK1103.out; have hfz9_0 := blk_frozen BK1103.out) | (go_at_call 48; (with_reducible refine (dancestudioref58_Edits.calls k _ _ l0_1 _ _ l1_1 t1104 _ ?side1 ?side2 ?side3 ?side4 A4.out).mono ?_); (case side1 => repeat (first | exact (Kd.C_below HR0_1.out HB.out) | (with_reducible refine Kd.C_alloc ?_ _) | (with_reducible refine Kd.C_drewN ?_ _) | (with_reducible refine Kd.C_drew ?_))); (case side2 => exact HC0_1.out); (case side3 => repeat (first | exact (Kd.C_below HR1_1.out HB.out) | (with_reducible refine Kd.C_alloc ?_ _) | (with_reducible refine Kd.C_drewN ?_ _) | (with_reducible refine Kd.C_drew ?_))); (case side4 => exact HC1_1.out); rintro e w' ⟨rfl, ⟨nd, rfl⟩⟩))
  go_ret
  exact ⟨by first | rfl | (simp [errW_none, errW_some] <;> rfl) | (simp [*, errW_none, errW_some] <;> rfl), hU HB.out⟩
 ·rw [if_neg c3] at H
  have c3b0 : (a0_0 == a1_0) = false := beq_eq_false_iff_ne.mpr c3
  have c3b1 : (a0_0 != a1_0) = true := bne_iff_ne.mpr c3
  obtain rfl := Option.some.inj H
  go_enter Try.func43, Try.ntmps43
  go_wp2_with (first | ((with_reducible refine gate_dst (N := 2) rfl ?_); refine box_event ?hg (N := 2) ?hd (cs := #[.int .i64 a0_0, .slice A0_1 l0_1.length c0_1]) (t := 24) ?hr ?_; (case hd => rfl); (case hg => rfl); (case hr => first | (go_simp; done) | (go_simp; rfl)); intro gb1102 hg w10 hbox hb; have n0_ := Aside0.mk (below_step (hU HB.out) hb); have n1_ := Aside0.mk (hbox); have n2_ := Aside0.mk ((by rw [hg]; exact (below_size (hU HB.out)) : w.heap.size ≤ gb1102)); have n3_ := Aside0.mk ((by rw [hg]; exact (below_size (hU HB.out)) : w.heap.size ≤ gb1102)); clear HB; have HB := n0_; have BK1102 := n1_; have GW1102 := n2_; have GE1102 := n3_; clear n0_ n1_ n2_ n3_; clear hb hbox hg) | ((with_reducible refine gate_dst (N := 3) rfl ?_); refine box_event ?hg (N := 3) ?hd (cs := #[.int .i64 a1_0, .slice A1_1 l1_1.length c1_1]) (t := 24) ?hr ?_; (case hd => rfl); (case hg => rfl); (case hr => first | (go_simp; done) | (go_simp; rfl)); intro gb1103 hg w11 hbox hb; have n0_ := Aside0.mk (blk_below (bU BK1102.out) hb); have n1_ := Aside0.mk (below_step (hU HB.out) hb); have n2_ := Aside0.mk (hbox); have n3_ := Aside0.mk ((by rw [hg]; exact (below_size (hU HB.out)) : w.heap.size ≤ gb1103)); have n4_ := Aside0.mk ((by rw [hg]; exact (below_size (hU HB.out)) : w.heap.size ≤ gb1103)); have n5_ := Aside0.mk ((by rw [hg]; exact Nat.ne_of_lt (blk_lt (bU BK1102.out)) : gb1102 ≠ gb1103)); have n6_ := Aside0.mk ((by rw [hg]; exact Nat.ne_of_gt (blk_lt (bU BK1102.out)) : gb1103 ≠ gb1102)); clear BK1102; clear HB; have BK1102 := n0_; have HB := n1_; have BK1103 := n2_; have GW1103 := n3_; have GE1103 := n4_; have NB1102_1103 := n5_; have NB1103_1102 := n6_; clear n0_ n1_ n2_ n3_ n4_ n5_ n6_; clear hb hbox hg; have hnb12 := NB1102_1103.out; have hnc12 := NB1103_1102.out; have hcz13_0 := blk_cell BK1102.out; have hfz13_0 := blk_frozen BK1102.out; have hcz14_0 := blk_cell BK1103.out; have hfz14_0 := blk_frozen BK1103.out))
  go_ret
  exact ⟨by first | rfl | (simp [errW_none, errW_some] <;> rfl) | (simp [*, errW_none, errW_some] <;> rfl), hU HB.out⟩

-- NOT PRINTED: function 90 (journal_written)
/-! ### dancestudiolaw58_hold: function 80 -/
def dancestudiolaw58_hold.f (a0 : Int) (a1 : Int) : Option (Int × Int × Int × Int × Int × Bool × Int × Int × Int × Int × Int × Int × Int) := some (a0, 2, 0, 1, 2, false, 2, 0, 0, a1, 0, 0, 0)
set_option maxHeartbeats 8000000 in
set_option maxRecDepth 100000 in
theorem dancestudiolaw58_hold.calls (a0 : Int) (a1 : Int) (r1 : Int) (r2 : Int) (r3 : Int) (r4 : Int) (r5 : Int) (r6 : Bool) (r7 : Int) (r8 : Int) (r9 : Int) (r10 : Int) (r11 : Int) (r12 : Int) (r13 : Int) (w : World) (h : dancestudiolaw58_hold.f a0 a1 = some (r1, r2, r3, r4, r5, r6, r7, r8, r9, r10, r11, r12, r13)) :
  Calls Try.prog 80 #[.int .i64 a0, .int .i64 a1] w fun e w' => e = .returned (.agg #[.int .i64 r1, .int .i64 r2, .int .i64 r3, .int .i64 r4, .int .i64 r5, .bool r6, .int .i64 r7, .int .i64 r8, .int .i64 r9, .int .i64 r10, .int .i64 r11, .int .i64 r12, .int .i64 r13]) ∧ Below w.heap.size w w' := by
 have hu30 := Try.underlying30
 have hu26 := Try.underlying26
 have hu28 := Try.underlying28
 have HB := Aside0.mk (Below.refl w.heap.size w)
 have H : (some (a0, 2, 0, 1, 2, false, 2, 0, 0, a1, 0, 0, 0)) = some (r1, r2, r3, r4, r5, r6, r7, r8, r9, r10, r11, r12, r13) := h
 clear h
 simp only [Option.some.injEq, Prod.mk.injEq] at H
 obtain ⟨rfl, rfl, rfl, rfl, rfl, rfl, rfl, rfl, rfl, rfl, rfl, rfl, rfl⟩ := H
 go_enter Try.func80, Try.ntmps80
 go_wp2_with (first | ((with_reducible refine gate_dst (N := 4) rfl ?_); refine box_event ?hg (N := 4) ?hd (cs := #[.int .i64 0, .int .i64 0, .int .i64 0, .int .i64 0, .int .i64 0, .bool false, .int .i64 0, .int .i64 0, .int .i64 0, .int .i64 0, .int .i64 0, .int .i64 0, .int .i64 0]) (t := 30) ?hr ?_; (case hd => rfl); (case hg => rfl); (case hr => first | (go_simp; done) | (go_simp; rfl)); intro gb1105 hg w3 hbox hb; have n0_ := Aside0.mk (below_step (hU HB.out) hb); have n1_ := Aside0.mk (hbox); have n2_ := Aside0.mk ((by rw [hg]; exact (below_size (hU HB.out)) : w.heap.size ≤ gb1105)); have n3_ := Aside0.mk ((by rw [hg]; exact (below_size (hU HB.out)) : w.heap.size ≤ gb1105)); clear HB; have HB := n0_; have BK1105 := n1_; have GW1105 := n2_; have GE1105 := n3_; clear n0_ n1_ n2_ n3_; clear hb hbox hg; have hcz4_0 := blk_cell BK1105.out; have hfz4_0 := blk_frozen BK1105.out))
 refine bodyPost_ret (results_cell_row rfl _ _ gb1105 30 #[.int .i64 a0, .int .i64 2, .int .i64 0, .int .i64 1, .int .i64 2, .bool false, .int .i64 2, .int .i64 0, .int .i64 0, .int .i64 a1, .int .i64 0, .int .i64 0, .int .i64 0] (0, 0) _ rfl (by (with_reducible repeat (first | refine blk_drewN ?_ _ | refine blk_drew ?_ | refine blk_alloc ?_ _)); apply blk_put; (iterate 12 ((with_reducible repeat (first | refine blk_drewN ?_ _ | refine blk_drew ?_ | refine blk_alloc ?_ _)); apply blk_set)); (with_reducible repeat (first | refine blk_drewN ?_ _ | refine blk_drew ?_ | refine blk_alloc ?_ _)); exact BK1105.out; simp only [List.setIfInBounds_toArray, List.set_cons_zero, List.set_cons_succ]) Try.underlying30 rfl (by kernel_rfl)) rfl ?_
 exact ⟨by first | rfl | (simp [errW_none, errW_some] <;> rfl) | (simp [*, errW_none, errW_some] <;> rfl), hU HB.out⟩

/-! ### dancestudiolaw58_drop: function 81 -/
def dancestudiolaw58_drop.f  : Option (Int × Int × Int × Int × Int × Bool × Int × Int × Int × Int × Int × Int × Int) := some (3, 2, 0, 1, 2, true, 0, 0, 0, 0, 0, 0, 0)
set_option maxHeartbeats 8000000 in
set_option maxRecDepth 100000 in
theorem dancestudiolaw58_drop.calls  (r1 : Int) (r2 : Int) (r3 : Int) (r4 : Int) (r5 : Int) (r6 : Bool) (r7 : Int) (r8 : Int) (r9 : Int) (r10 : Int) (r11 : Int) (r12 : Int) (r13 : Int) (w : World) (h : dancestudiolaw58_drop.f  = some (r1, r2, r3, r4, r5, r6, r7, r8, r9, r10, r11, r12, r13)) :
  Calls Try.prog 81 #[] w fun e w' => e = .returned (.agg #[.int .i64 r1, .int .i64 r2, .int .i64 r3, .int .i64 r4, .int .i64 r5, .bool r6, .int .i64 r7, .int .i64 r8, .int .i64 r9, .int .i64 r10, .int .i64 r11, .int .i64 r12, .int .i64 r13]) ∧ Below w.heap.size w w' := by
 have hu30 := Try.underlying30
 have hu26 := Try.underlying26
 have HB := Aside0.mk (Below.refl w.heap.size w)
 have H : (some (3, 2, 0, 1, 2, true, 0, 0, 0, 0, 0, 0, 0)) = some (r1, r2, r3, r4, r5, r6, r7, r8, r9, r10, r11, r12, r13) := h
 clear h
 simp only [Option.some.injEq, Prod.mk.injEq] at H
 obtain ⟨rfl, rfl, rfl, rfl, rfl, rfl, rfl, rfl, rfl, rfl, rfl, rfl, rfl⟩ := H
 go_enter Try.func81, Try.ntmps81
 go_wp2_with (first | ((with_reducible refine gate_dst (N := 0) rfl ?_); refine box_event ?hg (N := 0) ?hd (cs := #[.int .i64 0, .int .i64 0, .int .i64 0, .int .i64 0, .int .i64 0, .bool false, .int .i64 0, .int .i64 0, .int .i64 0, .int .i64 0, .int .i64 0, .int .i64 0, .int .i64 0]) (t := 30) ?hr ?_; (case hd => rfl); (case hg => rfl); (case hr => first | (go_simp; done) | (go_simp; rfl)); intro gb1106 hg w1 hbox hb; have n0_ := Aside0.mk (below_step (hU HB.out) hb); have n1_ := Aside0.mk (hbox); have n2_ := Aside0.mk ((by rw [hg]; exact (below_size (hU HB.out)) : w.heap.size ≤ gb1106)); have n3_ := Aside0.mk ((by rw [hg]; exact (below_size (hU HB.out)) : w.heap.size ≤ gb1106)); clear HB; have HB := n0_; have BK1106 := n1_; have GW1106 := n2_; have GE1106 := n3_; clear n0_ n1_ n2_ n3_; clear hb hbox hg; have hcz2_0 := blk_cell BK1106.out; have hfz2_0 := blk_frozen BK1106.out))
 refine bodyPost_ret (results_cell_row rfl _ _ gb1106 30 #[.int .i64 3, .int .i64 2, .int .i64 0, .int .i64 1, .int .i64 2, .bool true, .int .i64 0, .int .i64 0, .int .i64 0, .int .i64 0, .int .i64 0, .int .i64 0, .int .i64 0] (0, 0) _ rfl (by (with_reducible repeat (first | refine blk_drewN ?_ _ | refine blk_drew ?_ | refine blk_alloc ?_ _)); apply blk_put; (iterate 12 ((with_reducible repeat (first | refine blk_drewN ?_ _ | refine blk_drew ?_ | refine blk_alloc ?_ _)); apply blk_set)); (with_reducible repeat (first | refine blk_drewN ?_ _ | refine blk_drew ?_ | refine blk_alloc ?_ _)); exact BK1106.out; simp only [List.setIfInBounds_toArray, List.set_cons_zero, List.set_cons_succ]) Try.underlying30 rfl (by kernel_rfl)) rfl ?_
 exact ⟨by first | rfl | (simp [errW_none, errW_some] <;> rfl) | (simp [*, errW_none, errW_some] <;> rfl), hU HB.out⟩
end Go.Proofs.Yteopkkoblbmggaa.P
end
section
set_option linter.unusedVariables false
set_option linter.unusedSimpArgs false
namespace Go.Proofs.Yteopkkoblbmggaa.P
open Go.RowKit Go.Maps Go.Proofs.YteopkkoblbmggaaW.PrintWords Go.Proofs.YteopkkoblbmggaaW.PrintLast Go.Proofs.YteopkkoblbmggaaW.PrintMore
theorem laidOutS : laidOutB Try.prog = true := by kernel_rfl
theorem rowS : (82 : TypeId) < Try.prog.types.size := of_decide_eq_true (by kernel_rfl)
theorem wideS : (match Try.prog.underlying 82 with | some (.array _ _) | some (.struct _) => true | _ => false) = true := by kernel_rfl
set_option maxRecDepth 100000 in
theorem lawS : Go.Maps.Keyed Try.prog 82 := Go.Maps.Keyed.of_law (deep_law_laid laidOutS (m := 3) (by omega) rowS (by kernel_rfl) wideS)
theorem keyTS : Try.prog.keyType 82 = true := by kernel_rfl
theorem cellsS : Try.prog.cellsOf 82 = 3 := by kernel_rfl
theorem cellsT : Try.prog.cellsOf 26 = 2 := by kernel_rfl
theorem cellsI : Try.prog.cellsOf 3 = 1 := by kernel_rfl
theorem sizeS : ∃ m, Try.prog.types.size = m + 3 := ⟨Try.prog.types.size - 3, by have : 3 ≤ Try.prog.types.size := of_decide_eq_true (by kernel_rfl); omega⟩
def okN (n : Int) : Prop := (Lit.int .i64 n).wf = true
/-- What a sign of a part reads as. -/
def kS (p c d : Int) : Lit := .string (keyBytes [.int .i64 p, .int .i64 c, .int .i64 d])
theorem keyOf_S {p c d : Int} (h1 : okN p) (h2 : okN c) (h3 : okN d) : keyOf Try.prog 82 (.agg #[.int .i64 p, .int .i64 c, .int .i64 d]) = some (kS p c d) := by
  unfold okN at h1 h2 h3
  obtain ⟨m, hm⟩ := sizeS
  unfold keyOf
  rw [Try.underlying82]
  simp only [keyTS, Value.formed, Try.underlying82, cellsS, hm]
  simp [Program.keyLits, Try.underlying82, Try.underlying26, Try.underlying3, cellsS, cellsT, cellsI, h1, h2, h3, Value.cells, kS]
  rw [if_pos (by decide)]; rfl
theorem kS_inj {p c d p' c' d' : Int} (h1 : okN p) (h2 : okN c) (h3 : okN d) (h1' : okN p') (h2' : okN c') (h3' : okN d') (h : kS p c d = kS p' c' d') : p = p' ∧ c = c' ∧ d = d' := by
  have := lawS.inj (keyOf_S h1 h2 h3) (h ▸ keyOf_S h1' h2' h3')
  simp at this
  exact this
theorem plainElem_bool_inv {H : Type} {P : Program} {e : TypeId} (he : P.underlying e = some .bool) {v : Value} {z : DataW H × List MemPlace} (h : plainElem P e v = some z) : ∃ x, v = .bool x ∧ z = (.lit (.bool x), []) := by
  unfold plainElem at h
  rw [he] at h
  cases v <;> simp at h
  exact ⟨_, rfl, h.symm⟩
theorem zeroB (w : World) : (zeroValue 4).run Try.prog w = .ok (.bool false) w := by kernel_rfl
/-- 'm[k]' at a map of bools. -/
theorem wpList_lookup_bool {H : Type} {P : Program} (w : World) {ops : Array Oper} {rest : List Oper} {o : Oper} {a : Act} {Q : Exit → Act → World → Prop}
    (hg : o.guard = none) (m x : Operand) (t : TypeId) (hop : o.op = Op.lookup t m x false)
    (k e : TypeId) (K : Keyed P k) (ht : P.underlying t = some (.map k e)) (he : P.underlying e = some .bool) (hz : (zeroValue e).run P w = .ok (.bool false) w) (b n : Nat) (D : DataW H)
    (hm : a.eval m = .map (some b)) (hown : w.ownsMap P k (plainElem P e) b n D) (key : Value) (kl : Lit) (hx : a.eval x = key) (hkey : keyOf P k key = some kl) (r : Bool) (hr : D.atKey kl (.lit (.bool false)) = .lit (.bool r))
    (hK : wpList P ops Q rest (a.put o.dst (.bool r)) w) :
    wpList P ops Q (o :: rest) a w := by
  refine wpList_plain hg fun K' hK' => ?_
  obtain ⟨v, ps, hrun, hv⟩ := hown.lookup K ht hz (plainElem_bool he false) hkey
  obtain ⟨c, rfl, hc⟩ := plainElem_bool_inv he hv
  simp only [Prod.mk.injEq] at hc
  have hcr : c = r := by
    have := hc.1.symm.trans hr
    simpa using this
  subst hcr
  unfold Oper.wp
  simp [execOp, hop, hm, hx, hrun, Result.andThen]
  exact hK' _ _ hK
/-- What a map of bools says of a sign. -/
def SaysB (D : DataW Unit) (f : Int → Int → Int → Bool) : Prop := ∀ p c d, okN p → okN c → okN d → D.atKey (kS p c d) (.lit (.bool false)) = .lit (.bool (f p c d))
theorem saysB_put {D : DataW Unit} {f : Int → Int → Int → Bool} (h : SaysB D f) (hD : IsMap D) {p c d : Int} (h1 : okN p) (h2 : okN c) (h3 : okN d) :
    SaysB (D.put (kS p c d) (.lit (.bool true))) (fun p' c' d' => f p' c' d' || decide (p' = p ∧ c' = c ∧ d' = d)) := by
  intro p' c' d' g1 g2 g3
  by_cases e : p' = p ∧ c' = c ∧ d' = d
  · obtain ⟨rfl, rfl, rfl⟩ := e
    rw [atKey_put_same hD (lawS.key (keyOf_S h1 h2 h3))]
    simp
  · have hne : kS p' c' d' ≠ kS p c d := fun q => e (kS_inj g1 g2 g3 h1 h2 h3 q)
    rw [atKey_put_other hne, h p' c' d' g1 g2 g3]
    simp [e]
section
theorem rowT : (26 : TypeId) < Try.prog.types.size := of_decide_eq_true (by kernel_rfl)
theorem wideT : (match Try.prog.underlying 26 with | some (.array _ _) | some (.struct _) => true | _ => false) = true := by kernel_rfl
set_option maxRecDepth 100000 in
theorem lawT : Go.Maps.Keyed Try.prog 26 := Go.Maps.Keyed.of_law (deep_law_laid laidOutS (m := 2) (by omega) rowT (by kernel_rfl) wideT)
theorem keyTT : Try.prog.keyType 26 = true := by kernel_rfl
/-- What a stamp reads as. -/
def kT (c d : Int) : Lit := .string (keyBytes [.int .i64 c, .int .i64 d])
theorem keyOf_T {c d : Int} (h1 : okN c) (h2 : okN d) : keyOf Try.prog 26 (.agg #[.int .i64 c, .int .i64 d]) = some (kT c d) := by
  unfold okN at h1 h2
  obtain ⟨m, hm⟩ := sizeS
  unfold keyOf
  rw [Try.underlying26]
  simp only [keyTT, Value.formed, Try.underlying26, cellsT, hm]
  simp [Program.keyLits, Try.underlying26, Try.underlying3, cellsT, cellsI, h1, h2, Value.cells, kT]
theorem kT_inj {c d c' d' : Int} (h1 : okN c) (h2 : okN d) (h1' : okN c') (h2' : okN d') (h : kT c d = kT c' d') : c = c' ∧ d = d' := by
  have := lawT.inj (keyOf_T h1 h2) (h ▸ keyOf_T h1' h2')
  simp at this
  exact this
theorem zeroI (w : World) : (zeroValue 3).run Try.prog w = .ok (.int .i64 0) w := by kernel_rfl
theorem okN_small (i : Nat) (h : i ≤ 1000000) : (Lit.int .i64 (i : Int)).wf = true := by
  have e1 : IntKind.i64.min = -9223372036854775808 := rfl
  have e2 : IntKind.i64.max = 9223372036854775807 := rfl
  simp only [Lit.wf, e1, e2, Bool.and_eq_true, decide_eq_true_eq]
  omega
/-- What a map of ints says of a stamp. -/
def SaysI (D : DataW Unit) (f : Int → Int → Option Nat) : Prop := ∀ c d, okN c → okN d → D.atKey (kT c d) (.lit (.int .i64 0)) = .lit (.int .i64 (((f c d).getD 0 : Nat) : Int)) ∧ Maps.has D (kT c d) = (f c d).isSome
theorem saysI_empty : SaysI (.map []) (fun _ _ => none) := fun _ _ _ _ => ⟨rfl, rfl⟩
theorem saysI_put {D : DataW Unit} {f : Int → Int → Option Nat} (h : SaysI D f) (hD : IsMap D) {c d : Int} (h1 : okN c) (h2 : okN d) (v : Nat) :
    SaysI (D.put (kT c d) (.lit (.int .i64 (v : Int)))) (fun c' d' => if c' = c ∧ d' = d then some v else f c' d') := by
  intro c' d' g1 g2
  by_cases e : c' = c ∧ d' = d
  · obtain ⟨rfl, rfl⟩ := e
    rw [atKey_put_same hD (lawT.key (keyOf_T h1 h2)), has_put_same hD (lawT.key (keyOf_T h1 h2))]
    simp
  · have hne : kT c' d' ≠ kT c d := fun q => e (kT_inj g1 g2 h1 h2 q)
    rw [atKey_put_other hne, has_put_other hne]
    simp only [if_neg e]
    exact h c' d' g1 g2
section
variable {P : Program} {ops : Array Oper} {rest : List Oper} {o : Oper} {a : Act} {Q : Exit → Act → World → Prop}
/-- 'm[k]' at a map of ints. -/
theorem wpList_lookup_I {H : Type} (w : World) (hg : o.guard = none) (m x : Operand) (t : TypeId) (hop : o.op = Op.lookup t m x false)
    (k e : TypeId) (K : Keyed P k) (ht : P.underlying t = some (.map k e)) (he : P.underlying e = some (.int .i64)) (hz : (zeroValue e).run P w = .ok (.int .i64 0) w) (b n : Nat) (D : DataW H)
    (hm : a.eval m = .map (some b)) (hown : w.ownsMap P k (plainElem P e) b n D) (key : Value) (kl : Lit) (hx : a.eval x = key) (hkey : keyOf P k key = some kl) (r : Int) (hr : D.atKey kl (.lit (.int .i64 0)) = .lit (.int .i64 r))
    (hK : wpList P ops Q rest (a.put o.dst (.int .i64 r)) w) : wpList P ops Q (o :: rest) a w :=
  wpList_lookup_own_int w hg m x t hop k e .i64 K ht he hz b n D hm hown key kl hx hkey (fun c hc _ => by
    have : c = r := by
      have := hc.symm.trans hr
      simpa using this
    subst this
    exact hK)
/-- 'v, ok := m[k]' at a map of ints. -/
theorem wpList_lookup_okI {H : Type} (w : World) (hg : o.guard = none) (m x : Operand) (t : TypeId) (hop : o.op = Op.lookup t m x true)
    (k e : TypeId) (K : Keyed P k) (ht : P.underlying t = some (.map k e)) (he : P.underlying e = some (.int .i64)) (hz : (zeroValue e).run P w = .ok (.int .i64 0) w) (b n : Nat) (D : DataW H)
    (hm : a.eval m = .map (some b)) (hown : w.ownsMap P k (plainElem P e) b n D) (key : Value) (kl : Lit) (hx : a.eval x = key) (hkey : keyOf P k key = some kl) (r : Int) (hr : D.atKey kl (.lit (.int .i64 0)) = .lit (.int .i64 r)) (s : Bool) (hs : Maps.has D kl = s)
    (hK : wpList P ops Q rest (a.put o.dst (.tuple #[.int .i64 r, .bool s])) w) : wpList P ops Q (o :: rest) a w :=
  wpList_lookup_own_ok_int w hg m x t hop k e .i64 K ht he hz b n D hm hown key kl hx hkey (fun c hc _ => by
    have : c = r := by
      have := hc.symm.trans hr
      simpa using this
    subst this
    subst hs
    exact hK)
theorem gate_upd {W : World} {t : TypeId} {m x : Tmp} {v : Operand} (_ho : o.op = .mapUpdate t (.tmp m) (.tmp x) v) (h : wpList P ops Q (o :: rest) a W) : wpList P ops Q (o :: rest) a W := h
/-- make(map[K]V). -/
theorem map_event {W : World} (k : TypeId) (R : Value → Option (DataW Unit × List MemPlace)) (hgd : o.guard = none)
    (hrun : (execOp a.eval o).run P W = .ok (.value (.map (some W.heap.size))) (W.alloc (.map #[] 0)))
    (h : ∀ m, m = W.heap.size → ∀ w1, w1.ownsMap P k R m 0 (.map []) → Below W.heap.size W w1 → wpList P ops Q rest (a.put o.dst (.map (some m))) w1) : wpList P ops Q (o :: rest) a W :=
  Kd.event_run hgd hrun (h _ rfl _ (World.ownsMap_made _ _ _ _) (below_alloc (Below.refl _ _) _))
end
/-- A block of cells is not a map's. -/
theorem ne_map {W : World} {P : Program} {k : TypeId} {R : Value → Option (DataW Unit × List MemPlace)} {m n g t : Nat} {cs : Array Value} {D : DataW Unit} (ho : W.ownsMap P k R m n D) (h : W.heap[g]? = some (.cells cs t (0, 0))) : g ≠ m := by
  rintro rfl
  obtain ⟨es, clock, hb, _⟩ := ho
  rw [h] at hb; cases hb
theorem blk_map {W w1 : World} {P : Program} {k : TypeId} {R : Value → Option (DataW Unit × List MemPlace)} {m n g t : Nat} {cs : Array Value} {D : DataW Unit} (h : W.heap[g]? = some (.cells cs t (0, 0))) (ho : W.ownsMap P k R m n D) (hg : W.grownBy w1 (some m)) : w1.heap[g]? = some (.cells cs t (0, 0)) :=
  (hg.block g (blk_lt h) (fun e => ne_map ho h (Option.some.inj e))).trans h
theorem ownsMap_below {W w1 : World} {P : Program} {k : TypeId} {R : Value → Option (DataW Unit × List MemPlace)} {m n : Nat} {D : DataW Unit} (h : W.ownsMap P k R m n D) (hb : Below W.heap.size W w1) : w1.ownsMap P k R m n D := by
  have hlt := h.lt
  obtain ⟨es, clock, hbk, F, hs, hD⟩ := h
  exact ⟨es, clock, (hb.block m hlt).trans hbk, F, hs, hD⟩
end
end Go.Proofs.Yteopkkoblbmggaa.P
end
section
set_option linter.unusedVariables false
set_option linter.unusedSimpArgs false
namespace Go.Proofs.Yteopkkoblbmggaa.P
open Go.RowKit Go.Maps Go.Proofs.YteopkkoblbmggaaW.PrintWords Go.Proofs.YteopkkoblbmggaaW.PrintLast Go.Proofs.YteopkkoblbmggaaW.PrintMore
attribute [local go_sem high] eqA26
theorem rd30_at {xs : List S30} {i : Nat} (h : i < xs.length) : rd_T30 xs (i : Int) = xs[i] := by
  unfold rd_T30; rw [Int.toNat_natCast, List.getD_eq_getElem?_getD, List.getElem?_eq_getElem h, Option.getD_some]
/-- An edit founds its sign. -/
def fndsE (e : S30) : Bool := !e.f3 && (e.f0.f0 == e.f2.f0 && (e.f0.f1 == e.f2.f1))
def fouB (l : List S30) (p c d : Int) : Bool := l.any (fun e => fndsE e && decide (p = e.f1 ∧ c = e.f2.f0 ∧ d = e.f2.f1))
def okE30 (e : S30) : Prop := okN e.f1 ∧ okN e.f2.f0 ∧ okN e.f2.f1
theorem fouB_step (l : List S30) (i : Nat) (h : i < l.length) : (fun p c d => fouB (l.take (i + 1)) p c d) = fun p c d => fouB (l.take i) p c d || (fndsE l[i] && decide (p = l[i].f1 ∧ c = l[i].f2.f0 ∧ d = l[i].f2.f1)) := by
  funext p c d
  unfold fouB
  rw [List.take_add_one, List.getElem?_eq_getElem h, List.any_append]
  simp
set_option maxHeartbeats 4000000 in
set_option maxRecDepth 100000 in
theorem founders_calls (A0 : Option Addr) (c0 : Nat) (l0 : List S30) (w : World) (hr0 : Kd.C k30 w A0 l0.length l0) (hc0 : l0.length ≤ c0) (hlen : l0.length ≤ 1000000) (hv : ∀ e ∈ l0, okE30 e) :
    Calls Try.prog 57 #[.slice A0 l0.length c0] w fun e w' => ∃ B D, e = .returned (.map (some B)) ∧ World.ownsMap (H := Unit) w' Try.prog 82 (plainElem Try.prog 4) B l0.length D ∧ SaysB D (fouB l0) ∧ w.heap.size ≤ B ∧ Below w.heap.size w w' := by
  have HR := Aside0.mk hr0
  have HC := Aside0.mk hc0
  have HN := Aside0.mk hlen
  have HV := Aside0.mk hv
  have HB := Aside0.mk (Below.refl w.heap.size w)
  have hmm := @run_makeMap Try.prog
  clear hr0 hc0 hlen hv
  go_enter Try.func57, Try.ntmps57
  go_wp2
  go_loopg [9] l0.length (fun kq v9 W => ∃ (i : Nat) (D : DataW Unit), v9 = .int .i64 (i : Int) ∧ Aside0 (i + kq = l0.length) ∧ Aside0 (World.ownsMap W Try.prog 82 (plainElem Try.prog 4) w.heap.size i D) ∧ Aside0 (SaysB D (fouB (l0.take i))) ∧ Aside0 (Below w.heap.size w W))
  case atStart => exact ⟨0, .map [], rfl, ⟨by omega⟩, ⟨World.ownsMap_made _ _ _ _⟩, ⟨fun p c d _ _ _ => rfl⟩, ⟨below_alloc (Below.refl _ _) _⟩⟩
  case round =>
    clear HB
    obtain ⟨i, D, rfl, HK, HO, HS, HB⟩ := hrel
    cases gk with
    | zero =>
      have hi : i = l0.length := by have := HK.out; omega
      have hlt : decide (i < l0.length) = false := by simp; omega
      have ho := HO.out
      have hs := HS.out
      rw [hi, List.take_length] at hs
      rw [hi] at ho
      clear hi HO HS
      have HO := Aside0.mk ho
      have HS := Aside0.mk hs
      clear ho hs
      go_wp2
      go_ret
      exact ⟨_, D, rfl, HO.out, HS.out, Nat.le_refl _, HB.out⟩
    | succ k1 =>
      have hi : i < l0.length := by have := HK.out; omega
      have hlt : decide (i < l0.length) = true := by simp; exact hi
      obtain ⟨ad, e0, hx0, hx1, hx2, hx3, hx4, hx5, hx6, hx7, hx8, hx9, hx10, hx11, hx12⟩ := at_T30 HR.out (i : Int) (by omega) (by omega)
      cases e0
      rw [Int.toNat_natCast] at hx0 hx1 hx2 hx3 hx4 hx5 hx6 hx7 hx8 hx9 hx10 hx11 hx12
      rw [rd30_at hi] at hx0 hx1 hx2 hx3 hx4 hx5 hx6 hx7 hx8 hx9 hx10 hx11 hx12
      replace hx0 := (HB.out.cell (World.block_lt_of_cell? w _ hx0)).trans hx0
      replace hx1 := (HB.out.cell (World.block_lt_of_cell? w _ hx1)).trans hx1
      replace hx2 := (HB.out.cell (World.block_lt_of_cell? w _ hx2)).trans hx2
      replace hx3 := (HB.out.cell (World.block_lt_of_cell? w _ hx3)).trans hx3
      replace hx4 := (HB.out.cell (World.block_lt_of_cell? w _ hx4)).trans hx4
      replace hx5 := (HB.out.cell (World.block_lt_of_cell? w _ hx5)).trans hx5
      replace hx6 := (HB.out.cell (World.block_lt_of_cell? w _ hx6)).trans hx6
      replace hx7 := (HB.out.cell (World.block_lt_of_cell? w _ hx7)).trans hx7
      replace hx8 := (HB.out.cell (World.block_lt_of_cell? w _ hx8)).trans hx8
      replace hx9 := (HB.out.cell (World.block_lt_of_cell? w _ hx9)).trans hx9
      replace hx10 := (HB.out.cell (World.block_lt_of_cell? w _ hx10)).trans hx10
      replace hx11 := (HB.out.cell (World.block_lt_of_cell? w _ hx11)).trans hx11
      replace hx12 := (HB.out.cell (World.block_lt_of_cell? w _ hx12)).trans hx12
      have q0 : (0 ≤ ((i : Nat) : Int)) = True := by simp
      have q1 : (((i : Nat) : Int) < (l0.length : Int)) = True := by simp; exact hi
      have HT := Aside0.mk (fouB_step l0 i hi)
      have HE := Aside0.mk (HV.out _ (List.getElem_mem hi))
      generalize l0[i]'hi = x at hx0 hx1 hx2 hx3 hx4 hx5 hx6 hx7 hx8 hx9 hx10 hx11 hx12 HT HE
      have HI := Aside0.mk hi
      clear hi
      go_upto_region 5 with (fail)
      have HB1 : Aside0 (Below w.heap.size w (wr.alloc (.cells #[.int .i64 x.f0.f0, .int .i64 x.f0.f1, .int .i64 x.f1, .int .i64 x.f2.f0, .int .i64 x.f2.f1, .bool x.f3, .int .i64 x.f4.f0, .int .i64 x.f4.f1, .int .i64 x.f4.f2, .int .i64 x.f4.f3, .int .i64 x.f4.f4, .int .i64 x.f4.f5, .int .i64 x.f4.f6] 30))) := ⟨below_alloc HB.out _⟩
      have HO1 : Aside0 (World.ownsMap (H := Unit) (wr.alloc (.cells #[.int .i64 x.f0.f0, .int .i64 x.f0.f1, .int .i64 x.f1, .int .i64 x.f2.f0, .int .i64 x.f2.f1, .bool x.f3, .int .i64 x.f4.f0, .int .i64 x.f4.f1, .int .i64 x.f4.f2, .int .i64 x.f4.f3, .int .i64 x.f4.f4, .int .i64 x.f4.f5, .int .i64 x.f4.f6] 30)) Try.prog 82 (plainElem Try.prog 4) w.heap.size i D) := ⟨HO.out.alloc _⟩
      have B5 : Aside0 ((wr.alloc (.cells #[.int .i64 x.f0.f0, .int .i64 x.f0.f1, .int .i64 x.f1, .int .i64 x.f2.f0, .int .i64 x.f2.f1, .bool x.f3, .int .i64 x.f4.f0, .int .i64 x.f4.f1, .int .i64 x.f4.f2, .int .i64 x.f4.f3, .int .i64 x.f4.f4, .int .i64 x.f4.f5, .int .i64 x.f4.f6] 30)).heap[wr.heap.size]? = some (.cells #[.int .i64 x.f0.f0, .int .i64 x.f0.f1, .int .i64 x.f1, .int .i64 x.f2.f0, .int .i64 x.f2.f1, .bool x.f3, .int .i64 x.f4.f0, .int .i64 x.f4.f1, .int .i64 x.f4.f2, .int .i64 x.f4.f3, .int .i64 x.f4.f4, .int .i64 x.f4.f5, .int .i64 x.f4.f6] 30 (0, 0))) := ⟨blk_new _ _⟩
      generalize (wr.alloc (.cells #[.int .i64 x.f0.f0, .int .i64 x.f0.f1, .int .i64 x.f1, .int .i64 x.f2.f0, .int .i64 x.f2.f1, .bool x.f3, .int .i64 x.f4.f0, .int .i64 x.f4.f1, .int .i64 x.f4.f2, .int .i64 x.f4.f3, .int .i64 x.f4.f4, .int .i64 x.f4.f5, .int .i64 x.f4.f6] 30)) = W1 at HB1 HO1 B5 ⊢
      generalize wr.heap.size = g5 at B5 ⊢
      clear HO HB hx0 hx1 hx2 hx3 hx4 hx5 hx6 hx7 hx8 hx9 hx10 hx11 hx12
      have hc5 := blk_cell B5.out
      have skip_ : fndsE x = false → SaysB D (fouB (l0.take (i + 1))) := fun e => by
        have h := HT.out
        rw [e] at h
        simp only [Bool.false_and, Bool.or_false] at h
        have h2 := HS.out
        unfold SaysB at h2 ⊢
        intro p c d g1 g2 g3
        rw [h2 p c d g1 g2 g3, congrFun (congrFun (congrFun h p) c) d]
      have HSK := Aside0.mk skip_
      clear skip_
      by_cases c0_ : x.f3 = true
      · have hf : fndsE x = false := by unfold fndsE; rw [c0_]; rfl
        have HF := Aside0.mk hf
        clear hf
        go_wp2
        go_roundg k1
        case measure => have := HK.out; omega
        case rel => exact ⟨i + 1, D, by first | (simp; done) | (simp; unfold wrap64; have := HN.out; have := HI.out; omega), ⟨by have := HK.out; omega⟩, ⟨HO1.out.mono (Nat.le_succ _)⟩, ⟨HSK.out HF.out⟩, HB1⟩
      · have c0b : x.f3 = false := Bool.eq_false_iff.mpr c0_
        clear c0_
        by_cases c1_ : x.f0.f0 = x.f2.f0
        · have b1_ : (x.f0.f0 == x.f2.f0) = true := beq_iff_eq.mpr c1_
          by_cases c2_ : x.f0.f1 = x.f2.f1
          · have b2_ : (x.f0.f1 == x.f2.f1) = true := beq_iff_eq.mpr c2_
            have hf : fndsE x = true := by unfold fndsE; rw [c0b, b1_, b2_]; rfl
            have hput := saysB_put HS.out HO1.out.isMap HE.out.1 HE.out.2.1 HE.out.2.2
            have HP : Aside0 (SaysB (D.put (kS x.f1 x.f2.f0 x.f2.f1) (.lit (.bool true))) (fouB (l0.take (i + 1)))) := ⟨by
              have h := HT.out
              rw [hf] at h
              simp only [Bool.true_and] at h
              intro p c d g1 g2 g3
              rw [hput p c d g1 g2 g3, congrFun (congrFun (congrFun h p) c) d]⟩
            clear hput hf c1_ c2_
            go_wp2_with (first | (at_mapUpdate; refine wpList_mapUpdate_own _ rfl _ _ _ 79 rfl 82 4 lawS Try.underlying79 _ w.heap.size i D rfl HO1.out (by unfold maxLen; have := HN.out; have := HI.out; omega) _ _ _ rfl rfl (keyOf_S HE.out.1 HE.out.2.1 HE.out.2.2) _ [] (plainElem_bool Try.underlying4 true) ?_; intro w1 hown1 hgrow1; have HO2 := Aside0.mk hown1; have HB2 := Aside0.mk (HB1.out.grown hgrow1 (below_size HB1.out) (fun j hj => by cases hj; exact Nat.le_refl _)); clear hown1 hgrow1))
            go_roundg k1
            case measure => have := HK.out; omega
            case rel => exact ⟨i + 1, _, by first | (simp; done) | (simp; unfold wrap64; have := HN.out; have := HI.out; omega), ⟨by have := HK.out; omega⟩, HO2, HP, HB2⟩
          · have b2_ : (x.f0.f1 == x.f2.f1) = false := beq_eq_false_iff_ne.mpr c2_
            have hf : fndsE x = false := by unfold fndsE; rw [b2_, Bool.and_false, Bool.and_false]
            have HF := Aside0.mk hf
            clear hf c1_ c2_
            go_wp2
            go_roundg k1
            case measure => have := HK.out; omega
            case rel => exact ⟨i + 1, D, by first | (simp; done) | (simp; unfold wrap64; have := HN.out; have := HI.out; omega), ⟨by have := HK.out; omega⟩, ⟨HO1.out.mono (Nat.le_succ _)⟩, ⟨HSK.out HF.out⟩, HB1⟩
        · have b1_ : (x.f0.f0 == x.f2.f0) = false := beq_eq_false_iff_ne.mpr c1_
          have hf : fndsE x = false := by unfold fndsE; rw [b1_, Bool.false_and, Bool.and_false]
          have HF := Aside0.mk hf
          clear hf c1_
          go_wp2
          go_roundg k1
          case measure => have := HK.out; omega
          case rel => exact ⟨i + 1, D, by first | (simp; done) | (simp; unfold wrap64; have := HN.out; have := HI.out; omega), ⟨by have := HK.out; omega⟩, ⟨HO1.out.mono (Nat.le_succ _)⟩, ⟨HSK.out HF.out⟩, HB1⟩
end Go.Proofs.Yteopkkoblbmggaa.P
end
section
set_option linter.unusedVariables false
set_option linter.unusedSimpArgs false
namespace Go.Proofs.Yteopkkoblbmggaa.P
open Go.RowKit Go.Proofs.YteopkkoblbmggaaW.PrintWords Go.Proofs.YteopkkoblbmggaaW.PrintLast Go.Proofs.YteopkkoblbmggaaW.PrintMore
theorem wrap_in (x : Int) (h0 : -9223372036854775808 ≤ x) (h1 : x ≤ 9223372036854775807) : wrap64 x = x := by unfold wrap64; omega
def colP (k c : Int) : Prop := if k = 1 ∨ k = 2 then c = 0 ∨ c = 1 else if k = 3 then 2 ≤ c ∧ c < 8 else c = 8
instance (k c : Int) : Decidable (colP k c) := by unfold colP; infer_instance
def sayC (k c d v m : Int) : Int :=
  if k = 1 then (if 0 ≤ d ∧ d ≤ 8 ∧ -1 ≤ v ∧ v ≤ 1 then (if m = 0 then 0 else 2) else 1)
  else if k = 2 then (if d = 0 ∧ v = 0 ∧ m = 0 then 0 else 2)
  else if k = 3 then (ofP (c - 2) d v m).2.2.2
  else if k = 4 then (if d = 0 ∧ v = 0 then (if m < -16 ∨ 16 < m ∨ m = 0 then 1 else 0) else 2) else 0
/-- The error of Check. -/
def chkP (k c b l d v m : Int) : Int :=
  if k < 1 ∨ 4 < k then 9
  else if ¬ colP k c then 16
  else if b < 0 ∨ 8191 < b ∨ l < 1 ∨ 8192 - b < l then 1
  else sayC k c d v m
theorem says_eq (j : Nat) (k c b l d v m : Int) (hc : 0 ≤ c ∧ c ≤ 8) : symbol_says.f (j + 1) k c b l d v m = some (sayC k c d v m) := by
  unfold symbol_says.f sayC
  rw [wrap_in (c - 2) (by omega) (by omega)]
  by_cases k1 : k = 1
  · rw [if_pos k1, if_pos k1]
    have e : dir_Check.f d v = some (if 0 ≤ d ∧ d ≤ 8 ∧ -1 ≤ v ∧ v ≤ 1 then 0 else 1) := aim_Of.dcheck_eq d v
    rw [e, Option.bind_some]
    by_cases h : 0 ≤ d ∧ d ≤ 8 ∧ -1 ≤ v ∧ v ≤ 1
    · rw [if_pos h, if_pos h, if_pos rfl]; split <;> rfl
    · rw [if_neg h, if_neg h, if_neg (by decide)]
  · rw [if_neg k1, if_neg k1]
    by_cases k2 : k = 2
    · rw [if_pos k2, if_pos k2]
      by_cases h : d = 0 <;> by_cases h' : v = 0 <;> by_cases h'' : m = 0 <;> simp [h, h', h'']
    · rw [if_neg k2, if_neg k2]
      by_cases k3 : k = 3
      · rw [if_pos k3, if_pos k3]
        simp only [aim_Of.f, Option.bind_some]
      · rw [if_neg k3, if_neg k3]
        simp only [symbol_says.j0]
        by_cases k4 : k = 4 <;> by_cases h : d = 0 <;> by_cases h' : v = 0 <;> simp [k4, h, h']
        by_cases a : m < -16 <;> by_cases a' : 16 < m <;> by_cases a'' : m = 0 <;> simp [a, a', a'']
theorem place_eq (k c b l d v m : Int) (h : ¬ (k < 1 ∨ 4 < k)) : symbol_place.f k c b l d v m = some (decide (colP k c)) := by
  unfold symbol_place.f symbol_support.f colP
  grind
theorem symCheck_j (j : Nat) (x : Bool) (k c b l d v m : Int) (hx : x = false) (h1 : ¬ (k < 1 ∨ 4 < k)) : symbol_Check.j0 (j + 2) x k c b l d v m = some (chkP k c b l d v m) := by
  subst hx
  simp only [symbol_Check.j0, chkP, if_neg h1]
  rw [place_eq k c b l d v m h1, if_neg (by decide)]
  simp only [Option.bind_some, decide_eq_true_eq]
  by_cases h2 : colP k c
  · have hc : 0 ≤ c ∧ c ≤ 8 := by unfold colP at h2; grind
    rw [if_pos h2, if_neg (not_not_intro h2), says_eq j k c b l d v m hc]
    by_cases h3 : b < 0 ∨ 8191 < b
    · rw [if_pos (by omega : b < 0 ∨ 8191 < b ∨ l < 1 ∨ 8192 - b < l)]
      rcases h3 with h3 | h3
      · rw [if_pos h3]
      · rw [if_neg (by omega), if_pos (by omega)]
    · rw [wrap_in (8192 - b) (by omega) (by omega), if_neg (by omega), if_neg (by omega)]
      by_cases h4 : l < 1 ∨ 8192 - b < l
      · rw [if_pos (by omega : b < 0 ∨ 8191 < b ∨ l < 1 ∨ 8192 - b < l)]
        rcases h4 with h4 | h4
        · rw [if_pos h4]
        · by_cases h5 : l < 1
          · rw [if_pos h5]
          · rw [if_neg h5, if_pos (by omega)]
      · rw [if_neg (by omega), if_neg (by omega), if_neg (by omega : ¬ (b < 0 ∨ 8191 < b ∨ l < 1 ∨ 8192 - b < l))]
        rfl
  · rw [if_neg h2, if_pos h2]
theorem symCheck_eq (j : Nat) (k c b l d v m : Int) : symbol_Check.f (j + 2) k c b l d v m = some (chkP k c b l d v m) := by
  unfold symbol_Check.f
  by_cases h1 : k < 1 ∨ 4 < k
  · have e : chkP k c b l d v m = 9 := by rw [chkP, if_pos h1]
    rw [e]
    rcases h1 with h1 | h1
    · rw [if_pos h1]; simp [symbol_Check.j0]
    · rw [if_neg (by omega)]; simp [symbol_Check.j0, h1]
  · rw [if_neg (by omega)]
    exact symCheck_j j _ k c b l d v m (by simp; omega) h1
def valP (c d : Int) : Bool := decide (1 ≤ c ∧ c ≤ 1000000 ∧ 1 ≤ d ∧ d ≤ 64)
def lessP (a b c d : Int) : Bool := decide (a < c ∨ a = c ∧ b < d)
theorem valid_eq (c d : Int) : edits_valid.f c d = some (valP c d) := by
  unfold edits_valid.f valP
  by_cases h1 : 1 ≤ c <;> by_cases h2 : c ≤ 1000000 <;> by_cases h3 : 1 ≤ d <;> by_cases h4 : d ≤ 64 <;> simp [h1, h2, h3, h4, GE.ge]
theorem eless_eq (a b c d : Int) : edits_Less.f a b c d = some (lessP a b c d) := by
  unfold edits_Less.f lessP
  by_cases h1 : a < c
  · simp [h1]
  · by_cases h2 : a = c <;> simp [h1, h2]
/-- The error of Check. -/
def chkE (a0 a1 a2 a3 a4 : Int) (a5 : Bool) (a6 a7 a8 a9 a10 a11 a12 : Int) : Int :=
  if valP a0 a1 = false ∨ valP a3 a4 = false ∨ lessP a0 a1 a3 a4 = true then 43
  else if a2 < 0 ∨ 12 ≤ a2 then 33
  else if a5 = true then (if a6 = 0 ∧ a7 = 0 ∧ a8 = 0 ∧ a9 = 0 ∧ a10 = 0 ∧ a11 = 0 ∧ a12 = 0 then 0 else 2)
  else chkP a6 a7 a8 a9 a10 a11 a12
theorem chk_j0 (j : Nat) (x : Bool) (a0 a1 a2 a3 a4 : Int) (a5 : Bool) (a6 a7 a8 a9 a10 a11 a12 : Int) :
    edits_Check.j0 (j + 4) x a0 a1 a2 a3 a4 a5 a6 a7 a8 a9 a10 a11 a12 = some (if x = true then 43 else if a2 < 0 ∨ 12 ≤ a2 then 33
      else if a5 = true then (if a6 = 0 ∧ a7 = 0 ∧ a8 = 0 ∧ a9 = 0 ∧ a10 = 0 ∧ a11 = 0 ∧ a12 = 0 then 0 else 2) else chkP a6 a7 a8 a9 a10 a11 a12) := by
  simp only [edits_Check.j0, edits_Check.j1, symCheck_eq, Option.bind_some]
  cases x
  · simp only [Bool.false_eq_true, if_false, if_true]
    by_cases h1 : a2 < 0
    · rw [if_pos h1, if_pos (Or.inl h1)]
    · rw [if_neg h1]
      by_cases h2 : 12 ≤ a2
      · rw [if_pos (by simpa using h2), if_pos (Or.inr h2)]
      · rw [if_neg (by simpa using h2), if_neg (show ¬ (a2 < 0 ∨ 12 ≤ a2) by omega)]
        cases a5
        · simp
        · simp only [if_true]
          by_cases h : a6 = 0 ∧ a7 = 0 ∧ a8 = 0 ∧ a9 = 0 ∧ a10 = 0 ∧ a11 = 0 ∧ a12 = 0
          · obtain ⟨rfl, rfl, rfl, rfl, rfl, rfl, rfl⟩ := h
            rfl
          · rw [if_neg h, if_pos]
            simp only [Bool.or_eq_true, Bool.not_eq_true', beq_eq_false_iff_ne]
            by_cases b1 : a6 = 0
            · by_cases b2 : a7 = 0
              · by_cases b3 : a8 = 0
                · by_cases b4 : a9 = 0
                  · by_cases b5 : a10 = 0
                    · by_cases b6 : a11 = 0
                      · by_cases b7 : a12 = 0
                        · exact absurd ⟨b1, b2, b3, b4, b5, b6, b7⟩ h
                        · exact Or.inr (Or.inr (Or.inr (Or.inr (Or.inr (Or.inr b7)))))
                      · exact Or.inr (Or.inr (Or.inr (Or.inr (Or.inr (Or.inl b6)))))
                    · exact Or.inr (Or.inr (Or.inr (Or.inr (Or.inl b5))))
                  · exact Or.inr (Or.inr (Or.inr (Or.inl b4)))
                · exact Or.inr (Or.inr (Or.inl b3))
              · exact Or.inr (Or.inl b2)
            · exact Or.inl b1
  · simp
theorem check_eq (j : Nat) (a0 a1 a2 a3 a4 : Int) (a5 : Bool) (a6 a7 a8 a9 a10 a11 a12 : Int) :
    edits_Check.f (j + 4) a0 a1 a2 a3 a4 a5 a6 a7 a8 a9 a10 a11 a12 = some (chkE a0 a1 a2 a3 a4 a5 a6 a7 a8 a9 a10 a11 a12) := by
  unfold edits_Check.f chkE
  simp only [valid_eq, eless_eq, Option.bind_some, chk_j0]
  cases h1 : valP a0 a1 <;> cases h2 : valP a3 a4 <;> cases h3 : lessP a0 a1 a3 a4 <;> simp
end Go.Proofs.Yteopkkoblbmggaa.P
end

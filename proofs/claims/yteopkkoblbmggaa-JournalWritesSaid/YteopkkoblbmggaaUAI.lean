/- Texts of this claim in one: VP63, VP64, VMapS, VFound, VInsK, VIns; no condition. -/
import Derived.Test.YteopkkoblbmggaaUAD
import Derived.Test.YteopkkoblbmggaaUAH
import Derived.Maps.OwnSet
import Derived.Maps.OwnOps
import Derived.DeepKeys4
import Derived.Deep.Light
import Derived.WalkSpells
import Derived.Laws.CopyRow
import Derived.Laws.IdiomCopy
import Derived.Shelf.Spec.SlicesInsert
import Derived.Shelf.Spec.SlicesInsertGrow
section
namespace Go.Proofs.Yteopkkoblbmggaa.P
open Go.RowKit Go.Proofs.YteopkkoblbmggaaW.PrintWords Go.Proofs.YteopkkoblbmggaaW.PrintLast Go.Proofs.YteopkkoblbmggaaW.PrintMore
attribute [local go_sem] max2_int min2_int max_two min_two max_three min_three max_four min_four
set_option linter.unusedVariables false
set_option linter.unusedSimpArgs false
attribute [local go_sem high] eqA30
/-! ### dancestudioref58_Edits: function 48 -/
def dancestudioref58_Edits.l0 : Nat → List (S30) → List (S30) → Int → Option (Bool)
 | 0, _, _, _ => none
 | k + 1, x0, x1, x5 => if x5 < (x0.length : Int) then (if 0 ≤ x5 then (if x5 < (x1.length : Int) then (if ((!(((rd_T30 x0 x5).f0.f0) == ((rd_T30 x1 x5).f0.f0)) || (!(((rd_T30 x0 x5).f0.f1) == ((rd_T30 x1 x5).f0.f1)))) || (!(((rd_T30 x0 x5).f1) == ((rd_T30 x1 x5).f1)) || ((!(((rd_T30 x0 x5).f2.f0) == ((rd_T30 x1 x5).f2.f0)) || (!(((rd_T30 x0 x5).f2.f1) == ((rd_T30 x1 x5).f2.f1)))) || (!(((rd_T30 x0 x5).f3) == ((rd_T30 x1 x5).f3)) || ((!(((rd_T30 x0 x5).f4.f0) == ((rd_T30 x1 x5).f4.f0)) || (!(((rd_T30 x0 x5).f4.f1) == ((rd_T30 x1 x5).f4.f1)) || (!(((rd_T30 x0 x5).f4.f2) == ((rd_T30 x1 x5).f4.f2)) || (!(((rd_T30 x0 x5).f4.f3) == ((rd_T30 x1 x5).f4.f3)) || (!(((rd_T30 x0 x5).f4.f4) == ((rd_T30 x1 x5).f4.f4)) || (!(((rd_T30 x0 x5).f4.f5) == ((rd_T30 x1 x5).f4.f5)) || (!(((rd_T30 x0 x5).f4.f6) == ((rd_T30 x1 x5).f4.f6)))))))))))))) = true then (some false) else (dancestudioref58_Edits.l0 k x0 x1 (wrap64 (x5 + 1)))) else (none)) else (none)) else (some true)
def dancestudioref58_Edits.f (k : Nat) (l0 : List (S30)) (l1 : List (S30)) : Option (Bool) := if (l0.length : Int) = (l1.length : Int) then (dancestudioref58_Edits.l0 k l0 l1 0) else (some false)
theorem dancestudioref58_Edits.mono_l : ∀ k, (∀ y0 y1 y2, LeO (dancestudioref58_Edits.l0 k y0 y1 y2) (dancestudioref58_Edits.l0 (k + 1) y0 y1 y2))
 | 0 => fun _ _ _ r h => by simp [dancestudioref58_Edits.l0] at h
 | k + 1 => by
  have ih0 := dancestudioref58_Edits.mono_l k
  ·intro y0 y1 y2
   unfold dancestudioref58_Edits.l0
   repeat' first
   | (with_reducible exact ih0 _ _ _)
   | (with_reducible exact LeO.refl _)
   | (with_reducible exact LeO.none _)
   | (with_reducible refine LeO.ite ?_ ?_)
   | (with_reducible refine LeO.bind ?_ (fun _ => ?_))
   | exact ih0 _ _ _
   | exact LeO.none _
   | refine LeO.ite ?_ ?_
   | refine LeO.bind ?_ (fun _ => ?_)
theorem dancestudioref58_Edits.mono : ∀ a0 a1 k, LeO (dancestudioref58_Edits.f k a0 a1) (dancestudioref58_Edits.f (k + 1) a0 a1) := by
 intro a0 a1 k
 have ih0 := dancestudioref58_Edits.mono_l k
 unfold dancestudioref58_Edits.f
 repeat' first
   | (with_reducible exact ih0 _ _ _)
   | (with_reducible exact LeO.refl _)
   | (with_reducible exact LeO.none _)
   | (with_reducible refine LeO.ite ?_ ?_)
   | (with_reducible refine LeO.bind ?_ (fun _ => ?_))
   | exact ih0 _ _ _
   | exact LeO.none _
   | refine LeO.ite ?_ ?_
   | refine LeO.bind ?_ (fun _ => ?_)
set_option maxHeartbeats 8000000 in
set_option maxRecDepth 100000 in
theorem dancestudioref58_Edits.calls (k : Nat) (A0 : Option Addr) (c0 : Nat) (l0 : List (S30)) (A1 : Option Addr) (c1 : Nat) (l1 : List (S30)) (r : Bool) (w : World) (hr0 : Kd.C k30 w A0 l0.length l0) (hc0 : l0.length ≤ c0) (hr1 : Kd.C k30 w A1 l1.length l1) (hc1 : l1.length ≤ c1) (h : dancestudioref58_Edits.f k l0 l1 = some r) :
  Calls Try.prog 48 #[.slice A0 l0.length c0, .slice A1 l1.length c1] w fun e w' => e = .returned (.bool r) ∧ Drawn0 w w' := by
 have hu30 := Try.underlying30
 have HR0 := Aside0.mk hr0
 have HC0 := Aside0.mk hc0
 clear hr0 hc0
 have HR1 := Aside0.mk hr1
 have HC1 := Aside0.mk hc1
 clear hr1 hc1
 have H : (if (l0.length : Int) = (l1.length : Int) then (dancestudioref58_Edits.l0 k l0 l1 0) else (some false)) = some r := h
 clear h
 by_cases c3 : (l0.length : Int) = (l1.length : Int)
 ·rw [if_pos c3] at H
  have c3b0 : ((l0.length : Int) == (l1.length : Int)) = true := beq_iff_eq.mpr c3
  have c3b1 : ((l0.length : Int) != (l1.length : Int)) = false := bne_eq_false_iff_eq.mpr c3
  have c3b2 : (l0.length == l1.length) = true := by first | simpa using c3 | (simp at c3 ⊢; omega)
  clear c3
  have H' := Aside0.mk H
  clear H
  go_enter Try.func48, Try.ntmps48
  go_wp2
  repeat (go_quiet (fail); try go_wp2)
  go_loopg [5] k (fun kq v5 w' => ∃ (x5_1 : Int), v5 = .int .i64 x5_1 ∧ Aside0 (dancestudioref58_Edits.l0 kq l0 l1 x5_1 = some r) ∧ Aside0 (kq ≤ k) ∧ Drawn0 w w')
  case atStart => exact ⟨(0), (by first | rfl | (simp; done) | (simp [*]; done)), H', ⟨Nat.le_refl _⟩, by repeat (first | exact Drawn0.refl _ | apply Drawn0.step)⟩
  case round =>
   clear H'
   try clear c1
   try clear p2
   try clear c3
   try clear c3b0
   try clear c3b1
   try clear c3b2
   obtain ⟨x5_1, rfl, HA, HK1, ⟨m1, rfl⟩⟩ := hrel
   cases gk with
   | zero => exact absurd HA.out (by simp [dancestudioref58_Edits.l0])
   | succ k1 =>
    have H := HA.out
    clear HA
    simp only [dancestudioref58_Edits.l0] at H
    by_cases c4 : x5_1 < (l0.length : Int)
    ·rw [if_pos c4] at H
     have c4b0 : decide (x5_1 < (l0.length : Int)) = true := decide_eq_true c4
     clear c4
     by_cases c5 : 0 ≤ x5_1
     rotate_left
     ·rw [if_neg c5] at H
      exact absurd H (by simp)
     rw [if_pos c5] at H
     have c5b0 : decide (0 ≤ x5_1) = true := decide_eq_true c5
     clear c5
     by_cases c6 : x5_1 < (l1.length : Int)
     rotate_left
     ·rw [if_neg c6] at H
      exact absurd H (by simp)
     rw [if_pos c6] at H
     have c6b0 : decide (x5_1 < (l1.length : Int)) = true := decide_eq_true c6
     clear c6
     by_cases c7 : ((!(((rd_T30 l0 x5_1).f0.f0) == ((rd_T30 l1 x5_1).f0.f0)) || (!(((rd_T30 l0 x5_1).f0.f1) == ((rd_T30 l1 x5_1).f0.f1)))) || (!(((rd_T30 l0 x5_1).f1) == ((rd_T30 l1 x5_1).f1)) || ((!(((rd_T30 l0 x5_1).f2.f0) == ((rd_T30 l1 x5_1).f2.f0)) || (!(((rd_T30 l0 x5_1).f2.f1) == ((rd_T30 l1 x5_1).f2.f1)))) || (!(((rd_T30 l0 x5_1).f3) == ((rd_T30 l1 x5_1).f3)) || ((!(((rd_T30 l0 x5_1).f4.f0) == ((rd_T30 l1 x5_1).f4.f0)) || (!(((rd_T30 l0 x5_1).f4.f1) == ((rd_T30 l1 x5_1).f4.f1)) || (!(((rd_T30 l0 x5_1).f4.f2) == ((rd_T30 l1 x5_1).f4.f2)) || (!(((rd_T30 l0 x5_1).f4.f3) == ((rd_T30 l1 x5_1).f4.f3)) || (!(((rd_T30 l0 x5_1).f4.f4) == ((rd_T30 l1 x5_1).f4.f4)) || (!(((rd_T30 l0 x5_1).f4.f5) == ((rd_T30 l1 x5_1).f4.f5)) || (!(((rd_T30 l0 x5_1).f4.f6) == ((rd_T30 l1 x5_1).f4.f6)))))))))))))) = true
     ·rw [if_pos c7] at H
      have c7b0 : ((!(((rd_T30 l0 x5_1).f0.f0) == ((rd_T30 l1 x5_1).f0.f0)) || (!(((rd_T30 l0 x5_1).f0.f1) == ((rd_T30 l1 x5_1).f0.f1)))) || (!(((rd_T30 l0 x5_1).f1) == ((rd_T30 l1 x5_1).f1)) || ((!(((rd_T30 l0 x5_1).f2.f0) == ((rd_T30 l1 x5_1).f2.f0)) || (!(((rd_T30 l0 x5_1).f2.f1) == ((rd_T30 l1 x5_1).f2.f1)))) || (!(((rd_T30 l0 x5_1).f3) == ((rd_T30 l1 x5_1).f3)) || ((!(((rd_T30 l0 x5_1).f4.f0) == ((rd_T30 l1 x5_1).f4.f0)) || (!(((rd_T30 l0 x5_1).f4.f1) == ((rd_T30 l1 x5_1).f4.f1)) || (!(((rd_T30 l0 x5_1).f4.f2) == ((rd_T30 l1 x5_1).f4.f2)) || (!(((rd_T30 l0 x5_1).f4.f3) == ((rd_T30 l1 x5_1).f4.f3)) || (!(((rd_T30 l0 x5_1).f4.f4) == ((rd_T30 l1 x5_1).f4.f4)) || (!(((rd_T30 l0 x5_1).f4.f5) == ((rd_T30 l1 x5_1).f4.f5)) || (!(((rd_T30 l0 x5_1).f4.f6) == ((rd_T30 l1 x5_1).f4.f6)))))))))))))) = true := c7
      clear c7
      obtain rfl := Option.some.inj H
      have p1100 : 0 ≤ (x5_1 : Int) := of_decide_eq_true (by first | (with_reducible assumption) | assumption)
      have q1100 : x5_1 < (l0.length : Int) := of_decide_eq_true (by first | (with_reducible assumption) | assumption)
      obtain ⟨ad1100, e1100, hx1100_0, hx1100_1, hx1100_2, hx1100_3, hx1100_4, hx1100_5, hx1100_6, hx1100_7, hx1100_8, hx1100_9, hx1100_10, hx1100_11, hx1100_12⟩ := at_T30 HR0.out x5_1 p1100 q1100
      cases e1100
      replace p1100 := eq_true p1100
      replace q1100 := eq_true q1100
      have p1101 : 0 ≤ (x5_1 : Int) := of_decide_eq_true (by first | (with_reducible assumption) | assumption)
      have q1101 : x5_1 < (l1.length : Int) := of_decide_eq_true (by first | (with_reducible assumption) | assumption)
      obtain ⟨ad1101, e1101, hx1101_0, hx1101_1, hx1101_2, hx1101_3, hx1101_4, hx1101_5, hx1101_6, hx1101_7, hx1101_8, hx1101_9, hx1101_10, hx1101_11, hx1101_12⟩ := at_T30 HR1.out x5_1 p1101 q1101
      cases e1101
      replace p1101 := eq_true p1101
      replace q1101 := eq_true q1101
      go_wp2
      repeat (go_quiet (fail); try go_wp2)
      go_ret
      exact ⟨by first | rfl | (simp; done) | (simp [*]; done), by repeat (first | exact Drawn0.refl _ | apply Drawn0.step)⟩
     ·rw [if_neg c7] at H
      have c7b0 : ((!(((rd_T30 l0 x5_1).f0.f0) == ((rd_T30 l1 x5_1).f0.f0)) || (!(((rd_T30 l0 x5_1).f0.f1) == ((rd_T30 l1 x5_1).f0.f1)))) || (!(((rd_T30 l0 x5_1).f1) == ((rd_T30 l1 x5_1).f1)) || ((!(((rd_T30 l0 x5_1).f2.f0) == ((rd_T30 l1 x5_1).f2.f0)) || (!(((rd_T30 l0 x5_1).f2.f1) == ((rd_T30 l1 x5_1).f2.f1)))) || (!(((rd_T30 l0 x5_1).f3) == ((rd_T30 l1 x5_1).f3)) || ((!(((rd_T30 l0 x5_1).f4.f0) == ((rd_T30 l1 x5_1).f4.f0)) || (!(((rd_T30 l0 x5_1).f4.f1) == ((rd_T30 l1 x5_1).f4.f1)) || (!(((rd_T30 l0 x5_1).f4.f2) == ((rd_T30 l1 x5_1).f4.f2)) || (!(((rd_T30 l0 x5_1).f4.f3) == ((rd_T30 l1 x5_1).f4.f3)) || (!(((rd_T30 l0 x5_1).f4.f4) == ((rd_T30 l1 x5_1).f4.f4)) || (!(((rd_T30 l0 x5_1).f4.f5) == ((rd_T30 l1 x5_1).f4.f5)) || (!(((rd_T30 l0 x5_1).f4.f6) == ((rd_T30 l1 x5_1).f4.f6)))))))))))))) = false := by simpa using c7
      clear c7
      have H' := Aside0.mk H
      clear H
      have p1100 : 0 ≤ (x5_1 : Int) := of_decide_eq_true (by first | (with_reducible assumption) | assumption)
      have q1100 : x5_1 < (l0.length : Int) := of_decide_eq_true (by first | (with_reducible assumption) | assumption)
      obtain ⟨ad1100, e1100, hx1100_0, hx1100_1, hx1100_2, hx1100_3, hx1100_4, hx1100_5, hx1100_6, hx1100_7, hx1100_8, hx1100_9, hx1100_10, hx1100_11, hx1100_12⟩ := at_T30 HR0.out x5_1 p1100 q1100
      cases e1100
      replace p1100 := eq_true p1100
      replace q1100 := eq_true q1100
      have p1101 : 0 ≤ (x5_1 : Int) := of_decide_eq_true (by first | (with_reducible assumption) | assumption)
      have q1101 : x5_1 < (l1.length : Int) := of_decide_eq_true (by first | (with_reducible assumption) | assumption)
      obtain ⟨ad1101, e1101, hx1101_0, hx1101_1, hx1101_2, hx1101_3, hx1101_4, hx1101_5, hx1101_6, hx1101_7, hx1101_8, hx1101_9, hx1101_10, hx1101_11, hx1101_12⟩ := at_T30 HR1.out x5_1 p1101 q1101
      cases e1101
      replace p1101 := eq_true p1101
      replace q1101 := eq_true q1101
      go_wp2
      repeat (go_quiet (fail); try go_wp2)
      go_roundg k1
      case measure => have := HK1.out; omega
      case rel => exact ⟨(wrap64 (x5_1 + 1)), (by first | rfl | (simp; done) | (simp [*]; done)), H', ⟨by have := HK1.out; omega⟩, by repeat (first | exact Drawn0.refl _ | apply Drawn0.step)⟩
    ·rw [if_neg c4] at H
     have c4b0 : decide (x5_1 < (l0.length : Int)) = false := decide_eq_false c4
     clear c4
     obtain rfl := Option.some.inj H
     go_wp2
     repeat (go_quiet (fail); try go_wp2)
     go_ret
     exact ⟨by first | rfl | (simp; done) | (simp [*]; done), by repeat (first | exact Drawn0.refl _ | apply Drawn0.step)⟩
 ·rw [if_neg c3] at H
  have c3b0 : ((l0.length : Int) == (l1.length : Int)) = false := beq_eq_false_iff_ne.mpr c3
  have c3b1 : ((l0.length : Int) != (l1.length : Int)) = true := bne_iff_ne.mpr c3
  have c3b2 : (l0.length == l1.length) = false := by first | simpa using c3 | (simp at c3 ⊢; omega)
  obtain rfl := Option.some.inj H
  go_enter Try.func48, Try.ntmps48
  go_wp2
  repeat (go_quiet (fail); try go_wp2)
  go_ret
  exact ⟨by first | rfl | (simp; done) | (simp [*]; done), by repeat (first | exact Drawn0.refl _ | apply Drawn0.step)⟩

/-! ### dancestudioref58_Same: function 43 -/
def dancestudioref58_Same.f (k : Nat) (a0_0 : Int) (l0_1 : List (S30)) (a1_0 : Int) (l1_1 : List (S30)) : Option (Bool) := if a0_0 = a1_0 then ((dancestudioref58_Edits.f k l0_1 l1_1).bind fun t1104 => (some t1104)) else (some false)
theorem dancestudioref58_Same.mono : ∀ a0 a1 a2 a3 k, LeO (dancestudioref58_Same.f k a0 a1 a2 a3) (dancestudioref58_Same.f (k + 1) a0 a1 a2 a3) := by
 intro a0 a1 a2 a3 k
 unfold dancestudioref58_Same.f
 repeat' first
   | (with_reducible exact dancestudioref58_Edits.mono _ _ _)
   | (with_reducible exact LeO.refl _)
   | (with_reducible exact LeO.none _)
   | (with_reducible refine LeO.ite ?_ ?_)
   | (with_reducible refine LeO.bind ?_ (fun _ => ?_))
   | exact dancestudioref58_Edits.mono _ _ _
   | exact LeO.none _
   | refine LeO.ite ?_ ?_
   | refine LeO.bind ?_ (fun _ => ?_)
set_option maxHeartbeats 8000000 in
set_option maxRecDepth 100000 in
theorem dancestudioref58_Same.calls (k : Nat) (a0_0 : Int) (A0_1 : Option Addr) (c0_1 : Nat) (l0_1 : List (S30)) (a1_0 : Int) (A1_1 : Option Addr) (c1_1 : Nat) (l1_1 : List (S30)) (r : Bool) (w : World) (hr0_1 : Kd.C k30 w A0_1 l0_1.length l0_1) (hc0_1 : l0_1.length ≤ c0_1) (hr1_1 : Kd.C k30 w A1_1 l1_1.length l1_1) (hc1_1 : l1_1.length ≤ c1_1) (h : dancestudioref58_Same.f k a0_0 l0_1 a1_0 l1_1 = some r) :
  Calls Try.prog 43 #[.agg #[.int .i64 a0_0, .slice A0_1 l0_1.length c0_1], .agg #[.int .i64 a1_0, .slice A1_1 l1_1.length c1_1]] w fun e w' => e = .returned (.bool r) ∧ Below w.heap.size w w' := by
 have hu24 := Try.underlying24
 have HR0_1 := Aside0.mk hr0_1
 have HC0_1 := Aside0.mk hc0_1
 clear hr0_1 hc0_1
 have HR1_1 := Aside0.mk hr1_1
 have HC1_1 := Aside0.mk hc1_1
 clear hr1_1 hc1_1
 have HB := Aside0.mk (Below.refl w.heap.size w)
 have H : (if a0_0 = a1_0 then ((dancestudioref58_Edits.f k l0_1 l1_1).bind fun t1104 => (some t1104)) else (some false)) = some r := h
 clear h
 by_cases c3 : a0_0 = a1_0
 ·rw [if_pos c3] at H
  have c3b0 : (a0_0 == a1_0) = true := beq_iff_eq.mpr c3
  have c3b1 : (a0_0 != a1_0) = false := bne_eq_false_iff_eq.mpr c3
  clear c3
  replace H := Option.bind_eq_some_iff.mp H
  obtain ⟨t1104, A40, H⟩ := H
  replace H : (some t1104) = some r := H
  have A4 := Aside0.mk A40
  clear A40
  obtain rfl := Option.some.inj H
  go_enter Try.func43, Try.ntmps43
  go_wp2_with (first | ((with_reducible refine gate_dst (N := 2) rfl ?_); refine box_event ?hg (N := 2) ?hd (cs := #[.int .i64 a0_0, .slice A0_1 l0_1.length c0_1]) (t := 24) ?hr ?_; (case hd => rfl); (case hg => rfl); (case hr => first | (go_simp; done) | (go_simp; rfl)); intro gb1102 hg w5 hbox hb; have n0_ := Aside0.mk (below_step (hU HB.out) hb); have n1_ := Aside0.mk (hbox); have n2_ := Aside0.mk ((by rw [hg]; exact (below_size (hU HB.out)) : w.heap.size ≤ gb1102)); have n3_ := Aside0.mk ((by rw [hg]; exact (below_size (hU HB.out)) : w.heap.size ≤ gb1102)); clear HB; have HB := n0_; have BK1102 := n1_; have GW1102 := n2_; have GE1102 := n3_; clear n0_ n1_ n2_ n3_; clear hb hbox hg) | ((with_reducible refine gate_dst (N := 3) rfl ?_); refine box_event ?hg (N := 3) ?hd (cs := #[.int .i64 a1_0, .slice A1_1 l1_1.length c1_1]) (t := 24) ?hr ?_; (case hd => rfl); (case hg => rfl); (case hr => first | (go_simp; done) | (go_simp; rfl)); intro gb1103 hg w6 hbox hb; have n0_ := Aside0.mk (blk_below (bU BK1102.out) hb); have n1_ := Aside0.mk (below_step (hU HB.out) hb); have n2_ := Aside0.mk (hbox); have n3_ := Aside0.mk ((by rw [hg]; exact (below_size (hU HB.out)) : w.heap.size ≤ gb1103)); have n4_ := Aside0.mk ((by rw [hg]; exact (below_size (hU HB.out)) : w.heap.size ≤ gb1103)); have n5_ := Aside0.mk ((by rw [hg]; exact Nat.ne_of_lt (blk_lt (bU BK1102.out)) : gb1102 ≠ gb1103)); have n6_ := Aside0.mk ((by rw [hg]; exact Nat.ne_of_gt (blk_lt (bU BK1102.out)) : gb1103 ≠ gb1102)); clear BK1102; clear HB; have BK1102 := n0_; have HB := n1_; have BK1103 := n2_; have GW1103 := n3_; have GE1103 := n4_; have NB1102_1103 := n5_; have NB1103_1102 := n6_; clear n0_ n1_ n2_ n3_ n4_ n5_ n6_; clear hb hbox hg; have hnb7 := NB1102_1103.out; have hnc7 := NB1103_1102.out; have hcz8_0 := blk_cell BK1102.out; have hfz8_0 := blk_frozen BK1102.out; have hcz9_0 := blk_cell BK1103.out; have hfz9_0 := blk_frozen BK1103.out) | (go_at_call 48; (with_reducible refine (dancestudioref58_Edits.calls k _ _ l0_1 _ _ l1_1 t1104 _ ?side1 ?side2 ?side3 ?side4 A4.out).mono ?_); (case side1 => repeat (first | exact (Kd.C_below HR0_1.out HB.out) | (with_reducible refine Kd.C_alloc ?_ _) | (with_reducible refine Kd.C_drewN ?_ _) | (with_reducible refine Kd.C_drew ?_))); (case side2 => exact HC0_1.out); (case side3 => repeat (first | exact (Kd.C_below HR1_1.out HB.out) | (with_reducible refine Kd.C_alloc ?_ _) | (with_reducible refine Kd.C_drewN ?_ _) | (with_reducible refine Kd.C_drew ?_))); (case side4 => exact HC1_1.out); rintro e w' ⟨rfl, ⟨nd, rfl⟩⟩))
  go_ret
  exact ⟨by first | rfl | (simp [errW_none, errW_some] <;> rfl) | (simp [*, errW_none, errW_some] <;> rfl), hU HB.out⟩
 ·rw [if_neg c3] at H
  have c3b0 : (a0_0 == a1_0) = false := beq_eq_false_iff_ne.mpr c3
  have c3b1 : (a0_0 != a1_0) = true := bne_iff_ne.mpr c3
  obtain rfl := Option.some.inj H
  go_enter Try.func43, Try.ntmps43
  go_wp2_with (first | ((with_reducible refine gate_dst (N := 2) rfl ?_); refine box_event ?hg (N := 2) ?hd (cs := #[.int .i64 a0_0, .slice A0_1 l0_1.length c0_1]) (t := 24) ?hr ?_; (case hd => rfl); (case hg => rfl); (case hr => first | (go_simp; done) | (go_simp; rfl)); intro gb1102 hg w10 hbox hb; have n0_ := Aside0.mk (below_step (hU HB.out) hb); have n1_ := Aside0.mk (hbox); have n2_ := Aside0.mk ((by rw [hg]; exact (below_size (hU HB.out)) : w.heap.size ≤ gb1102)); have n3_ := Aside0.mk ((by rw [hg]; exact (below_size (hU HB.out)) : w.heap.size ≤ gb1102)); clear HB; have HB := n0_; have BK1102 := n1_; have GW1102 := n2_; have GE1102 := n3_; clear n0_ n1_ n2_ n3_; clear hb hbox hg) | ((with_reducible refine gate_dst (N := 3) rfl ?_); refine box_event ?hg (N := 3) ?hd (cs := #[.int .i64 a1_0, .slice A1_1 l1_1.length c1_1]) (t := 24) ?hr ?_; (case hd => rfl); (case hg => rfl); (case hr => first | (go_simp; done) | (go_simp; rfl)); intro gb1103 hg w11 hbox hb; have n0_ := Aside0.mk (blk_below (bU BK1102.out) hb); have n1_ := Aside0.mk (below_step (hU HB.out) hb); have n2_ := Aside0.mk (hbox); have n3_ := Aside0.mk ((by rw [hg]; exact (below_size (hU HB.out)) : w.heap.size ≤ gb1103)); have n4_ := Aside0.mk ((by rw [hg]; exact (below_size (hU HB.out)) : w.heap.size ≤ gb1103)); have n5_ := Aside0.mk ((by rw [hg]; exact Nat.ne_of_lt (blk_lt (bU BK1102.out)) : gb1102 ≠ gb1103)); have n6_ := Aside0.mk ((by rw [hg]; exact Nat.ne_of_gt (blk_lt (bU BK1102.out)) : gb1103 ≠ gb1102)); clear BK1102; clear HB; have BK1102 := n0_; have HB := n1_; have BK1103 := n2_; have GW1103 := n3_; have GE1103 := n4_; have NB1102_1103 := n5_; have NB1103_1102 := n6_; clear n0_ n1_ n2_ n3_ n4_ n5_ n6_; clear hb hbox hg; have hnb12 := NB1102_1103.out; have hnc12 := NB1103_1102.out; have hcz13_0 := blk_cell BK1102.out; have hfz13_0 := blk_frozen BK1102.out; have hcz14_0 := blk_cell BK1103.out; have hfz14_0 := blk_frozen BK1103.out))
  go_ret
  exact ⟨by first | rfl | (simp [errW_none, errW_some] <;> rfl) | (simp [*, errW_none, errW_some] <;> rfl), hU HB.out⟩

-- NOT PRINTED: function 90 (journal_written)
/-! ### dancestudiolaw58_hold: function 80 -/
def dancestudiolaw58_hold.f (a0 : Int) (a1 : Int) : Option (Int × Int × Int × Int × Int × Bool × Int × Int × Int × Int × Int × Int × Int) := some (a0, 2, 0, 1, 2, false, 2, 0, 0, a1, 0, 0, 0)
set_option maxHeartbeats 8000000 in
set_option maxRecDepth 100000 in
theorem dancestudiolaw58_hold.calls (a0 : Int) (a1 : Int) (r1 : Int) (r2 : Int) (r3 : Int) (r4 : Int) (r5 : Int) (r6 : Bool) (r7 : Int) (r8 : Int) (r9 : Int) (r10 : Int) (r11 : Int) (r12 : Int) (r13 : Int) (w : World) (h : dancestudiolaw58_hold.f a0 a1 = some (r1, r2, r3, r4, r5, r6, r7, r8, r9, r10, r11, r12, r13)) :
  Calls Try.prog 80 #[.int .i64 a0, .int .i64 a1] w fun e w' => e = .returned (.agg #[.int .i64 r1, .int .i64 r2, .int .i64 r3, .int .i64 r4, .int .i64 r5, .bool r6, .int .i64 r7, .int .i64 r8, .int .i64 r9, .int .i64 r10, .int .i64 r11, .int .i64 r12, .int .i64 r13]) ∧ Below w.heap.size w w' := by
 have hu30 := Try.underlying30
 have hu26 := Try.underlying26
 have hu28 := Try.underlying28
 have HB := Aside0.mk (Below.refl w.heap.size w)
 have H : (some (a0, 2, 0, 1, 2, false, 2, 0, 0, a1, 0, 0, 0)) = some (r1, r2, r3, r4, r5, r6, r7, r8, r9, r10, r11, r12, r13) := h
 clear h
 simp only [Option.some.injEq, Prod.mk.injEq] at H
 obtain ⟨rfl, rfl, rfl, rfl, rfl, rfl, rfl, rfl, rfl, rfl, rfl, rfl, rfl⟩ := H
 go_enter Try.func80, Try.ntmps80
 go_wp2_with (first | ((with_reducible refine gate_dst (N := 4) rfl ?_); refine box_event ?hg (N := 4) ?hd (cs := #[.int .i64 0, .int .i64 0, .int .i64 0, .int .i64 0, .int .i64 0, .bool false, .int .i64 0, .int .i64 0, .int .i64 0, .int .i64 0, .int .i64 0, .int .i64 0, .int .i64 0]) (t := 30) ?hr ?_; (case hd => rfl); (case hg => rfl); (case hr => first | (go_simp; done) | (go_simp; rfl)); intro gb1105 hg w3 hbox hb; have n0_ := Aside0.mk (below_step (hU HB.out) hb); have n1_ := Aside0.mk (hbox); have n2_ := Aside0.mk ((by rw [hg]; exact (below_size (hU HB.out)) : w.heap.size ≤ gb1105)); have n3_ := Aside0.mk ((by rw [hg]; exact (below_size (hU HB.out)) : w.heap.size ≤ gb1105)); clear HB; have HB := n0_; have BK1105 := n1_; have GW1105 := n2_; have GE1105 := n3_; clear n0_ n1_ n2_ n3_; clear hb hbox hg; have hcz4_0 := blk_cell BK1105.out; have hfz4_0 := blk_frozen BK1105.out))
 refine bodyPost_ret (results_cell_row rfl _ _ gb1105 30 #[.int .i64 a0, .int .i64 2, .int .i64 0, .int .i64 1, .int .i64 2, .bool false, .int .i64 2, .int .i64 0, .int .i64 0, .int .i64 a1, .int .i64 0, .int .i64 0, .int .i64 0] (0, 0) _ rfl (by (with_reducible repeat (first | refine blk_drewN ?_ _ | refine blk_drew ?_ | refine blk_alloc ?_ _)); apply blk_put; (iterate 12 ((with_reducible repeat (first | refine blk_drewN ?_ _ | refine blk_drew ?_ | refine blk_alloc ?_ _)); apply blk_set)); (with_reducible repeat (first | refine blk_drewN ?_ _ | refine blk_drew ?_ | refine blk_alloc ?_ _)); exact BK1105.out; simp only [List.setIfInBounds_toArray, List.set_cons_zero, List.set_cons_succ]) Try.underlying30 rfl (by kernel_rfl)) rfl ?_
 exact ⟨by first | rfl | (simp [errW_none, errW_some] <;> rfl) | (simp [*, errW_none, errW_some] <;> rfl), hU HB.out⟩

/-! ### dancestudiolaw58_drop: function 81 -/
def dancestudiolaw58_drop.f  : Option (Int × Int × Int × Int × Int × Bool × Int × Int × Int × Int × Int × Int × Int) := some (3, 2, 0, 1, 2, true, 0, 0, 0, 0, 0, 0, 0)
set_option maxHeartbeats 8000000 in
set_option maxRecDepth 100000 in
theorem dancestudiolaw58_drop.calls  (r1 : Int) (r2 : Int) (r3 : Int) (r4 : Int) (r5 : Int) (r6 : Bool) (r7 : Int) (r8 : Int) (r9 : Int) (r10 : Int) (r11 : Int) (r12 : Int) (r13 : Int) (w : World) (h : dancestudiolaw58_drop.f  = some (r1, r2, r3, r4, r5, r6, r7, r8, r9, r10, r11, r12, r13)) :
  Calls Try.prog 81 #[] w fun e w' => e = .returned (.agg #[.int .i64 r1, .int .i64 r2, .int .i64 r3, .int .i64 r4, .int .i64 r5, .bool r6, .int .i64 r7, .int .i64 r8, .int .i64 r9, .int .i64 r10, .int .i64 r11, .int .i64 r12, .int .i64 r13]) ∧ Below w.heap.size w w' := by
 have hu30 := Try.underlying30
 have hu26 := Try.underlying26
 have HB := Aside0.mk (Below.refl w.heap.size w)
 have H : (some (3, 2, 0, 1, 2, true, 0, 0, 0, 0, 0, 0, 0)) = some (r1, r2, r3, r4, r5, r6, r7, r8, r9, r10, r11, r12, r13) := h
 clear h
 simp only [Option.some.injEq, Prod.mk.injEq] at H
 obtain ⟨rfl, rfl, rfl, rfl, rfl, rfl, rfl, rfl, rfl, rfl, rfl, rfl, rfl⟩ := H
 go_enter Try.func81, Try.ntmps81
 go_wp2_with (first | ((with_reducible refine gate_dst (N := 0) rfl ?_); refine box_event ?hg (N := 0) ?hd (cs := #[.int .i64 0, .int .i64 0, .int .i64 0, .int .i64 0, .int .i64 0, .bool false, .int .i64 0, .int .i64 0, .int .i64 0, .int .i64 0, .int .i64 0, .int .i64 0, .int .i64 0]) (t := 30) ?hr ?_; (case hd => rfl); (case hg => rfl); (case hr => first | (go_simp; done) | (go_simp; rfl)); intro gb1106 hg w1 hbox hb; have n0_ := Aside0.mk (below_step (hU HB.out) hb); have n1_ := Aside0.mk (hbox); have n2_ := Aside0.mk ((by rw [hg]; exact (below_size (hU HB.out)) : w.heap.size ≤ gb1106)); have n3_ := Aside0.mk ((by rw [hg]; exact (below_size (hU HB.out)) : w.heap.size ≤ gb1106)); clear HB; have HB := n0_; have BK1106 := n1_; have GW1106 := n2_; have GE1106 := n3_; clear n0_ n1_ n2_ n3_; clear hb hbox hg; have hcz2_0 := blk_cell BK1106.out; have hfz2_0 := blk_frozen BK1106.out))
 refine bodyPost_ret (results_cell_row rfl _ _ gb1106 30 #[.int .i64 3, .int .i64 2, .int .i64 0, .int .i64 1, .int .i64 2, .bool true, .int .i64 0, .int .i64 0, .int .i64 0, .int .i64 0, .int .i64 0, .int .i64 0, .int .i64 0] (0, 0) _ rfl (by (with_reducible repeat (first | refine blk_drewN ?_ _ | refine blk_drew ?_ | refine blk_alloc ?_ _)); apply blk_put; (iterate 12 ((with_reducible repeat (first | refine blk_drewN ?_ _ | refine blk_drew ?_ | refine blk_alloc ?_ _)); apply blk_set)); (with_reducible repeat (first | refine blk_drewN ?_ _ | refine blk_drew ?_ | refine blk_alloc ?_ _)); exact BK1106.out; simp only [List.setIfInBounds_toArray, List.set_cons_zero, List.set_cons_succ]) Try.underlying30 rfl (by kernel_rfl)) rfl ?_
 exact ⟨by first | rfl | (simp [errW_none, errW_some] <;> rfl) | (simp [*, errW_none, errW_some] <;> rfl), hU HB.out⟩
end Go.Proofs.Yteopkkoblbmggaa.P
end
section
set_option linter.unusedVariables false
set_option linter.unusedSimpArgs false
namespace Go.Proofs.Yteopkkoblbmggaa.P
open Go.RowKit Go.Maps Go.Proofs.YteopkkoblbmggaaW.PrintWords Go.Proofs.YteopkkoblbmggaaW.PrintLast Go.Proofs.YteopkkoblbmggaaW.PrintMore
theorem laidOutS : laidOutB Try.prog = true := by kernel_rfl
theorem rowS : (82 : TypeId) < Try.prog.types.size := of_decide_eq_true (by kernel_rfl)
theorem wideS : (match Try.prog.underlying 82 with | some (.array _ _) | some (.struct _) => true | _ => false) = true := by kernel_rfl
set_option maxRecDepth 100000 in
theorem lawS : Go.Maps.Keyed Try.prog 82 := Go.Maps.Keyed.of_law (deep_law_laid laidOutS (m := 3) (by omega) rowS (by kernel_rfl) wideS)
theorem keyTS : Try.prog.keyType 82 = true := by kernel_rfl
theorem cellsS : Try.prog.cellsOf 82 = 3 := by kernel_rfl
theorem cellsT : Try.prog.cellsOf 26 = 2 := by kernel_rfl
theorem cellsI : Try.prog.cellsOf 3 = 1 := by kernel_rfl
theorem sizeS : ∃ m, Try.prog.types.size = m + 3 := ⟨Try.prog.types.size - 3, by have : 3 ≤ Try.prog.types.size := of_decide_eq_true (by kernel_rfl); omega⟩
def okN (n : Int) : Prop := (Lit.int .i64 n).wf = true
/-- What a sign of a part reads as. -/
def kS (p c d : Int) : Lit := .string (keyBytes [.int .i64 p, .int .i64 c, .int .i64 d])
theorem keyOf_S {p c d : Int} (h1 : okN p) (h2 : okN c) (h3 : okN d) : keyOf Try.prog 82 (.agg #[.int .i64 p, .int .i64 c, .int .i64 d]) = some (kS p c d) := by
  unfold okN at h1 h2 h3
  obtain ⟨m, hm⟩ := sizeS
  unfold keyOf
  rw [Try.underlying82]
  simp only [keyTS, Value.formed, Try.underlying82, cellsS, hm]
  simp [Program.keyLits, Try.underlying82, Try.underlying26, Try.underlying3, cellsS, cellsT, cellsI, h1, h2, h3, Value.cells, kS]
  rw [if_pos (by decide)]; rfl
theorem kS_inj {p c d p' c' d' : Int} (h1 : okN p) (h2 : okN c) (h3 : okN d) (h1' : okN p') (h2' : okN c') (h3' : okN d') (h : kS p c d = kS p' c' d') : p = p' ∧ c = c' ∧ d = d' := by
  have := lawS.inj (keyOf_S h1 h2 h3) (h ▸ keyOf_S h1' h2' h3')
  simp at this
  exact this
theorem plainElem_bool_inv {H : Type} {P : Program} {e : TypeId} (he : P.underlying e = some .bool) {v : Value} {z : DataW H × List MemPlace} (h : plainElem P e v = some z) : ∃ x, v = .bool x ∧ z = (.lit (.bool x), []) := by
  unfold plainElem at h
  rw [he] at h
  cases v <;> simp at h
  exact ⟨_, rfl, h.symm⟩
theorem zeroB (w : World) : (zeroValue 4).run Try.prog w = .ok (.bool false) w := by kernel_rfl
/-- 'm[k]' at a map of bools. -/
theorem wpList_lookup_bool {H : Type} {P : Program} (w : World) {ops : Array Oper} {rest : List Oper} {o : Oper} {a : Act} {Q : Exit → Act → World → Prop}
    (hg : o.guard = none) (m x : Operand) (t : TypeId) (hop : o.op = Op.lookup t m x false)
    (k e : TypeId) (K : Keyed P k) (ht : P.underlying t = some (.map k e)) (he : P.underlying e = some .bool) (hz : (zeroValue e).run P w = .ok (.bool false) w) (b n : Nat) (D : DataW H)
    (hm : a.eval m = .map (some b)) (hown : w.ownsMap P k (plainElem P e) b n D) (key : Value) (kl : Lit) (hx : a.eval x = key) (hkey : keyOf P k key = some kl) (r : Bool) (hr : D.atKey kl (.lit (.bool false)) = .lit (.bool r))
    (hK : wpList P ops Q rest (a.put o.dst (.bool r)) w) :
    wpList P ops Q (o :: rest) a w := by
  refine wpList_plain hg fun K' hK' => ?_
  obtain ⟨v, ps, hrun, hv⟩ := hown.lookup K ht hz (plainElem_bool he false) hkey
  obtain ⟨c, rfl, hc⟩ := plainElem_bool_inv he hv
  simp only [Prod.mk.injEq] at hc
  have hcr : c = r := by
    have := hc.1.symm.trans hr
    simpa using this
  subst hcr
  unfold Oper.wp
  simp [execOp, hop, hm, hx, hrun, Result.andThen]
  exact hK' _ _ hK
/-- What a map of bools says of a sign. -/
def SaysB (D : DataW Unit) (f : Int → Int → Int → Bool) : Prop := ∀ p c d, okN p → okN c → okN d → D.atKey (kS p c d) (.lit (.bool false)) = .lit (.bool (f p c d))
theorem saysB_put {D : DataW Unit} {f : Int → Int → Int → Bool} (h : SaysB D f) (hD : IsMap D) {p c d : Int} (h1 : okN p) (h2 : okN c) (h3 : okN d) :
    SaysB (D.put (kS p c d) (.lit (.bool true))) (fun p' c' d' => f p' c' d' || decide (p' = p ∧ c' = c ∧ d' = d)) := by
  intro p' c' d' g1 g2 g3
  by_cases e : p' = p ∧ c' = c ∧ d' = d
  · obtain ⟨rfl, rfl, rfl⟩ := e
    rw [atKey_put_same hD (lawS.key (keyOf_S h1 h2 h3))]
    simp
  · have hne : kS p' c' d' ≠ kS p c d := fun q => e (kS_inj g1 g2 g3 h1 h2 h3 q)
    rw [atKey_put_other hne, h p' c' d' g1 g2 g3]
    simp [e]
end Go.Proofs.Yteopkkoblbmggaa.P
end
section
set_option linter.unusedVariables false
set_option linter.unusedSimpArgs false
namespace Go.Proofs.Yteopkkoblbmggaa.P
open Go.RowKit Go.Maps Go.Proofs.YteopkkoblbmggaaW.PrintWords Go.Proofs.YteopkkoblbmggaaW.PrintLast Go.Proofs.YteopkkoblbmggaaW.PrintMore
attribute [local go_sem high] eqA26
theorem rd30_at {xs : List S30} {i : Nat} (h : i < xs.length) : rd_T30 xs (i : Int) = xs[i] := by
  unfold rd_T30; rw [Int.toNat_natCast, List.getD_eq_getElem?_getD, List.getElem?_eq_getElem h, Option.getD_some]
/-- An edit founds its sign. -/
def fndsE (e : S30) : Bool := !e.f3 && (e.f0.f0 == e.f2.f0 && (e.f0.f1 == e.f2.f1))
def fouB (l : List S30) (p c d : Int) : Bool := l.any (fun e => fndsE e && decide (p = e.f1 ∧ c = e.f2.f0 ∧ d = e.f2.f1))
def okE30 (e : S30) : Prop := okN e.f1 ∧ okN e.f2.f0 ∧ okN e.f2.f1
theorem fouB_step (l : List S30) (i : Nat) (h : i < l.length) : (fun p c d => fouB (l.take (i + 1)) p c d) = fun p c d => fouB (l.take i) p c d || (fndsE l[i] && decide (p = l[i].f1 ∧ c = l[i].f2.f0 ∧ d = l[i].f2.f1)) := by
  funext p c d
  unfold fouB
  rw [List.take_add_one, List.getElem?_eq_getElem h, List.any_append]
  simp
set_option maxHeartbeats 4000000 in
set_option maxRecDepth 100000 in
theorem founders_calls (A0 : Option Addr) (c0 : Nat) (l0 : List S30) (w : World) (hr0 : Kd.C k30 w A0 l0.length l0) (hc0 : l0.length ≤ c0) (hlen : l0.length ≤ 1000000) (hv : ∀ e ∈ l0, okE30 e) :
    Calls Try.prog 57 #[.slice A0 l0.length c0] w fun e w' => ∃ B D, e = .returned (.map (some B)) ∧ World.ownsMap (H := Unit) w' Try.prog 82 (plainElem Try.prog 4) B l0.length D ∧ SaysB D (fouB l0) ∧ w.heap.size ≤ B ∧ Below w.heap.size w w' := by
  have HR := Aside0.mk hr0
  have HC := Aside0.mk hc0
  have HN := Aside0.mk hlen
  have HV := Aside0.mk hv
  have HB := Aside0.mk (Below.refl w.heap.size w)
  have hmm := @run_makeMap Try.prog
  clear hr0 hc0 hlen hv
  go_enter Try.func57, Try.ntmps57
  go_wp2
  go_loopg [9] l0.length (fun kq v9 W => ∃ (i : Nat) (D : DataW Unit), v9 = .int .i64 (i : Int) ∧ Aside0 (i + kq = l0.length) ∧ Aside0 (World.ownsMap W Try.prog 82 (plainElem Try.prog 4) w.heap.size i D) ∧ Aside0 (SaysB D (fouB (l0.take i))) ∧ Aside0 (Below w.heap.size w W))
  case atStart => exact ⟨0, .map [], rfl, ⟨by omega⟩, ⟨World.ownsMap_made _ _ _ _⟩, ⟨fun p c d _ _ _ => rfl⟩, ⟨below_alloc (Below.refl _ _) _⟩⟩
  case round =>
    clear HB
    obtain ⟨i, D, rfl, HK, HO, HS, HB⟩ := hrel
    cases gk with
    | zero =>
      have hi : i = l0.length := by have := HK.out; omega
      have hlt : decide (i < l0.length) = false := by simp; omega
      have ho := HO.out
      have hs := HS.out
      rw [hi, List.take_length] at hs
      rw [hi] at ho
      clear hi HO HS
      have HO := Aside0.mk ho
      have HS := Aside0.mk hs
      clear ho hs
      go_wp2
      go_ret
      exact ⟨_, D, rfl, HO.out, HS.out, Nat.le_refl _, HB.out⟩
    | succ k1 =>
      have hi : i < l0.length := by have := HK.out; omega
      have hlt : decide (i < l0.length) = true := by simp; exact hi
      obtain ⟨ad, e0, hx0, hx1, hx2, hx3, hx4, hx5, hx6, hx7, hx8, hx9, hx10, hx11, hx12⟩ := at_T30 HR.out (i : Int) (by omega) (by omega)
      cases e0
      rw [Int.toNat_natCast] at hx0 hx1 hx2 hx3 hx4 hx5 hx6 hx7 hx8 hx9 hx10 hx11 hx12
      rw [rd30_at hi] at hx0 hx1 hx2 hx3 hx4 hx5 hx6 hx7 hx8 hx9 hx10 hx11 hx12
      replace hx0 := (HB.out.cell (World.block_lt_of_cell? w _ hx0)).trans hx0
      replace hx1 := (HB.out.cell (World.block_lt_of_cell? w _ hx1)).trans hx1
      replace hx2 := (HB.out.cell (World.block_lt_of_cell? w _ hx2)).trans hx2
      replace hx3 := (HB.out.cell (World.block_lt_of_cell? w _ hx3)).trans hx3
      replace hx4 := (HB.out.cell (World.block_lt_of_cell? w _ hx4)).trans hx4
      replace hx5 := (HB.out.cell (World.block_lt_of_cell? w _ hx5)).trans hx5
      replace hx6 := (HB.out.cell (World.block_lt_of_cell? w _ hx6)).trans hx6
      replace hx7 := (HB.out.cell (World.block_lt_of_cell? w _ hx7)).trans hx7
      replace hx8 := (HB.out.cell (World.block_lt_of_cell? w _ hx8)).trans hx8
      replace hx9 := (HB.out.cell (World.block_lt_of_cell? w _ hx9)).trans hx9
      replace hx10 := (HB.out.cell (World.block_lt_of_cell? w _ hx10)).trans hx10
      replace hx11 := (HB.out.cell (World.block_lt_of_cell? w _ hx11)).trans hx11
      replace hx12 := (HB.out.cell (World.block_lt_of_cell? w _ hx12)).trans hx12
      have q0 : (0 ≤ ((i : Nat) : Int)) = True := by simp
      have q1 : (((i : Nat) : Int) < (l0.length : Int)) = True := by simp; exact hi
      have HT := Aside0.mk (fouB_step l0 i hi)
      have HE := Aside0.mk (HV.out _ (List.getElem_mem hi))
      generalize l0[i]'hi = x at hx0 hx1 hx2 hx3 hx4 hx5 hx6 hx7 hx8 hx9 hx10 hx11 hx12 HT HE
      have HI := Aside0.mk hi
      clear hi
      go_upto_region 5 with (fail)
      have HB1 : Aside0 (Below w.heap.size w (wr.alloc (.cells #[.int .i64 x.f0.f0, .int .i64 x.f0.f1, .int .i64 x.f1, .int .i64 x.f2.f0, .int .i64 x.f2.f1, .bool x.f3, .int .i64 x.f4.f0, .int .i64 x.f4.f1, .int .i64 x.f4.f2, .int .i64 x.f4.f3, .int .i64 x.f4.f4, .int .i64 x.f4.f5, .int .i64 x.f4.f6] 30))) := ⟨below_alloc HB.out _⟩
      have HO1 : Aside0 (World.ownsMap (H := Unit) (wr.alloc (.cells #[.int .i64 x.f0.f0, .int .i64 x.f0.f1, .int .i64 x.f1, .int .i64 x.f2.f0, .int .i64 x.f2.f1, .bool x.f3, .int .i64 x.f4.f0, .int .i64 x.f4.f1, .int .i64 x.f4.f2, .int .i64 x.f4.f3, .int .i64 x.f4.f4, .int .i64 x.f4.f5, .int .i64 x.f4.f6] 30)) Try.prog 82 (plainElem Try.prog 4) w.heap.size i D) := ⟨HO.out.alloc _⟩
      have B5 : Aside0 ((wr.alloc (.cells #[.int .i64 x.f0.f0, .int .i64 x.f0.f1, .int .i64 x.f1, .int .i64 x.f2.f0, .int .i64 x.f2.f1, .bool x.f3, .int .i64 x.f4.f0, .int .i64 x.f4.f1, .int .i64 x.f4.f2, .int .i64 x.f4.f3, .int .i64 x.f4.f4, .int .i64 x.f4.f5, .int .i64 x.f4.f6] 30)).heap[wr.heap.size]? = some (.cells #[.int .i64 x.f0.f0, .int .i64 x.f0.f1, .int .i64 x.f1, .int .i64 x.f2.f0, .int .i64 x.f2.f1, .bool x.f3, .int .i64 x.f4.f0, .int .i64 x.f4.f1, .int .i64 x.f4.f2, .int .i64 x.f4.f3, .int .i64 x.f4.f4, .int .i64 x.f4.f5, .int .i64 x.f4.f6] 30 (0, 0))) := ⟨blk_new _ _⟩
      generalize (wr.alloc (.cells #[.int .i64 x.f0.f0, .int .i64 x.f0.f1, .int .i64 x.f1, .int .i64 x.f2.f0, .int .i64 x.f2.f1, .bool x.f3, .int .i64 x.f4.f0, .int .i64 x.f4.f1, .int .i64 x.f4.f2, .int .i64 x.f4.f3, .int .i64 x.f4.f4, .int .i64 x.f4.f5, .int .i64 x.f4.f6] 30)) = W1 at HB1 HO1 B5 ⊢
      generalize wr.heap.size = g5 at B5 ⊢
      clear HO HB hx0 hx1 hx2 hx3 hx4 hx5 hx6 hx7 hx8 hx9 hx10 hx11 hx12
      have hc5 := blk_cell B5.out
      have skip_ : fndsE x = false → SaysB D (fouB (l0.take (i + 1))) := fun e => by
        have h := HT.out
        rw [e] at h
        simp only [Bool.false_and, Bool.or_false] at h
        have h2 := HS.out
        unfold SaysB at h2 ⊢
        intro p c d g1 g2 g3
        rw [h2 p c d g1 g2 g3, congrFun (congrFun (congrFun h p) c) d]
      have HSK := Aside0.mk skip_
      clear skip_
      by_cases c0_ : x.f3 = true
      · have hf : fndsE x = false := by unfold fndsE; rw [c0_]; rfl
        have HF := Aside0.mk hf
        clear hf
        go_wp2
        go_roundg k1
        case measure => have := HK.out; omega
        case rel => exact ⟨i + 1, D, by first | (simp; done) | (simp; unfold wrap64; have := HN.out; have := HI.out; omega), ⟨by have := HK.out; omega⟩, ⟨HO1.out.mono (Nat.le_succ _)⟩, ⟨HSK.out HF.out⟩, HB1⟩
      · have c0b : x.f3 = false := Bool.eq_false_iff.mpr c0_
        clear c0_
        by_cases c1_ : x.f0.f0 = x.f2.f0
        · have b1_ : (x.f0.f0 == x.f2.f0) = true := beq_iff_eq.mpr c1_
          by_cases c2_ : x.f0.f1 = x.f2.f1
          · have b2_ : (x.f0.f1 == x.f2.f1) = true := beq_iff_eq.mpr c2_
            have hf : fndsE x = true := by unfold fndsE; rw [c0b, b1_, b2_]; rfl
            have hput := saysB_put HS.out HO1.out.isMap HE.out.1 HE.out.2.1 HE.out.2.2
            have HP : Aside0 (SaysB (D.put (kS x.f1 x.f2.f0 x.f2.f1) (.lit (.bool true))) (fouB (l0.take (i + 1)))) := ⟨by
              have h := HT.out
              rw [hf] at h
              simp only [Bool.true_and] at h
              intro p c d g1 g2 g3
              rw [hput p c d g1 g2 g3, congrFun (congrFun (congrFun h p) c) d]⟩
            clear hput hf c1_ c2_
            go_wp2_with (first | (at_mapUpdate; refine wpList_mapUpdate_own _ rfl _ _ _ 79 rfl 82 4 lawS Try.underlying79 _ w.heap.size i D rfl HO1.out (by unfold maxLen; have := HN.out; have := HI.out; omega) _ _ _ rfl rfl (keyOf_S HE.out.1 HE.out.2.1 HE.out.2.2) _ [] (plainElem_bool Try.underlying4 true) ?_; intro w1 hown1 hgrow1; have HO2 := Aside0.mk hown1; have HB2 := Aside0.mk (HB1.out.grown hgrow1 (below_size HB1.out) (fun j hj => by cases hj; exact Nat.le_refl _)); clear hown1 hgrow1))
            go_roundg k1
            case measure => have := HK.out; omega
            case rel => exact ⟨i + 1, _, by first | (simp; done) | (simp; unfold wrap64; have := HN.out; have := HI.out; omega), ⟨by have := HK.out; omega⟩, HO2, HP, HB2⟩
          · have b2_ : (x.f0.f1 == x.f2.f1) = false := beq_eq_false_iff_ne.mpr c2_
            have hf : fndsE x = false := by unfold fndsE; rw [b2_, Bool.and_false, Bool.and_false]
            have HF := Aside0.mk hf
            clear hf c1_ c2_
            go_wp2
            go_roundg k1
            case measure => have := HK.out; omega
            case rel => exact ⟨i + 1, D, by first | (simp; done) | (simp; unfold wrap64; have := HN.out; have := HI.out; omega), ⟨by have := HK.out; omega⟩, ⟨HO1.out.mono (Nat.le_succ _)⟩, ⟨HSK.out HF.out⟩, HB1⟩
        · have b1_ : (x.f0.f0 == x.f2.f0) = false := beq_eq_false_iff_ne.mpr c1_
          have hf : fndsE x = false := by unfold fndsE; rw [b1_, Bool.false_and, Bool.and_false]
          have HF := Aside0.mk hf
          clear hf c1_
          go_wp2
          go_roundg k1
          case measure => have := HK.out; omega
          case rel => exact ⟨i + 1, D, by first | (simp; done) | (simp; unfold wrap64; have := HN.out; have := HI.out; omega), ⟨by have := HK.out; omega⟩, ⟨HO1.out.mono (Nat.le_succ _)⟩, ⟨HSK.out HF.out⟩, HB1⟩
end Go.Proofs.Yteopkkoblbmggaa.P
end
section
set_option linter.unusedVariables false
namespace Go.Proofs.Yteopkkoblbmggaa.P
open Go
theorem run_copy_rowS {P : Program} (w : World) (dT sT ty elem : TypeId) (g o dLen dCap : Nat) (a : Addr) (sLen sCap sz : Nat) (cur : Array Value) (t : TypeId) (cs : List Value)
    (hu : P.underlying dT = some (.slice elem)) (hs : (P.info? elem).map (·.size) = some sz)
    (hg : w.heap[g]? = some (.cells cur t (0, 0))) (hn : cs.length = Nat.min sLen dLen * sz)
    (hsrc : ∀ j v, cs[j]? = some v → w.cell? (a.add j) = some v) (hfit : o + cs.length ≤ cur.size) (h1 : ∀ v ∈ cs, v.oneCell' = true) :
    (Builtin.copy_ #[dT, sT] ty #[.slice (some ⟨g, o, none⟩) dLen dCap, .slice (some a) sLen sCap]).run P w =
      .ok (goInt (Nat.min sLen dLen)) (w.setRow g (cur.toList.take o ++ cs ++ cur.toList.drop (o + cs.length)).toArray) := by
  have hl := run_loadCells_list (P := P) w a cs hsrc
  have hst := run_storeCells_at P g o t cs 0 cur w hg (by simpa using hfit) h1
  cases hq : P.info? elem with
  | none => simp [hq] at hs
  | some i =>
    have hi : i.size = sz := by simpa [hq] using hs
    simp [Builtin.copy_, run_underlying hu, Builtin.lenOf, Builtin.firstCells, sizeOf, typeInfo, hq, hi, ← hn, hl, hst]
end Go.Proofs.Yteopkkoblbmggaa.P
end
section
set_option linter.unusedVariables false
set_option linter.unusedSimpArgs false
namespace Go.Proofs.Yteopkkoblbmggaa.P
open Go.RowKit Go.Lib Go.Proofs.YteopkkoblbmggaaW.PrintWords Go.Proofs.YteopkkoblbmggaaW.PrintLast Go.Proofs.YteopkkoblbmggaaW.PrintMore
theorem size30 (w : World) : (Go.sizeOf 30).run Try.prog w = .ok 13 w := by kernel_rfl
theorem info30s : (Try.prog.info? 30).map (·.size) = some 13 := by kernel_rfl
set_option maxHeartbeats 8000000 in
set_option maxRecDepth 100000 in
theorem ins_shift (g cap n i vb : Nat) (cur : Array Value) (ec : List Value) (w : World) (hi : i < n) (hroom : n + 1 ≤ cap) (hc63 : cap ≤ 9223372036854775807) (hn : n ≤ 1000000)
    (hg : w.heap[g]? = some (.cells cur 30 (0, 0))) (hsz : cur.size = cap * 13) (hv : w.heap[vb]? = some (.cells ec.toArray 30 (0, 0))) (hec : ec.length = 13) (hne : vb ≠ g)
    (mid : List Value) (hmid : mid = (cur.toList.take (n * 13)).drop (i * 13)) (R1 R2 : Array Value) (hR1 : R1 = (cur.toList.take ((i + 1) * 13) ++ mid ++ cur.toList.drop ((i + 1) * 13 + mid.length)).toArray)
    (hR2 : R2 = (R1.toList.take (i * 13) ++ ec ++ R1.toList.drop (i * 13 + ec.length)).toArray)
    (h1c : ∀ v ∈ mid, v.oneCell' = true) (h1v : ∀ v ∈ ec, v.oneCell' = true) :
    Calls Try.prog 58 #[.slice (some ⟨g, 0, none⟩) n cap, .int .i64 i, .slice (some ⟨vb, 0, none⟩) 1 1] w fun e w' =>
      e = .returned (.slice (some ⟨g, 0, none⟩) (n + 1) cap) ∧ w' = (w.drew.setRow g R1).setRow g R2 := by
  have hus := Try.underlying22
  have hz2 : ¬ ((i : Int) = (n : Int)) := by omega
  have hml : mid.length = (n - i) * 13 := by rw [hmid, List.length_drop, List.length_take, Array.length_toList, hsz]; omega
  have hov : ∀ o lb cb, (callFunc 94 #[.slice (some ⟨vb, 0, none⟩) 1 1, .slice (some ⟨g, o, none⟩) lb cb]).run Try.prog w = .ok (.value (.bool false)) w := fun o lb cb => by
    rw [run_callFunc_extern Try.func94 (by kernel_rfl) (by kernel_rfl) (by kernel_rfl) (e := Extern.SlicesOverlaps.overlaps #[22, 22] #[4]) (by kernel_rfl),
      Lib.run_overlaps_apart w 22 4 30 hus 13 size30 ⟨vb, 0, none⟩ ⟨g, o, none⟩ 1 1 lb cb hne 30 30 ec.toArray.size cur.size (by simp [World.shape?, hv]) (by simp [World.shape?, hg]) (by omega) (blk_frozen hv 0) (blk_frozen hv _)]
    rfl
  have hcp1 : ∀ ty dc sc, (Builtin.copy_ #[22, 22] ty #[.slice (some ⟨g, (i + 1) * 13, none⟩) (n - i) dc, .slice (some ⟨g, i * 13, none⟩) (n + 1 - i) sc]).run Try.prog w.drew = .ok (goInt ((n - i : Nat) : Int)) (w.drew.setRow g R1) := fun ty dc sc => by
    have h := run_copy_rowS (P := Try.prog) w.drew 22 22 ty 30 g ((i + 1) * 13) (n - i) dc ⟨g, i * 13, none⟩ (n + 1 - i) sc 13 cur 30 mid hus info30s hg (by rw [hml]; simp only [Nat.min_def]; split <;> omega)
      (fun j v hj => by
        rw [Addr.add_lit]
        refine (blk_cell hg _).trans ?_
        rw [hmid, List.getElem?_drop, List.getElem?_take] at hj
        split at hj
        · rw [Array.getElem?_toList] at hj; exact hj
        · cases hj)
      (by rw [hml, hsz]; omega) h1c
    rw [show Nat.min (n + 1 - i) (n - i) = n - i by simp only [Nat.min_def]; split <;> omega, ← hR1] at h
    exact h
  have hR1l : R1.size = cur.size := by rw [hR1, List.size_toArray, List.length_append, List.length_append, List.length_take, List.length_drop, Array.length_toList, hml, hsz]; omega
  have hvW : (w.drew.setRow g R1).heap[vb]? = some (.cells ec.toArray 30 (0, 0)) := by
    have : (w.drew.setRow g R1).heap[vb]? = w.heap[vb]? := by
      show (w.heap.modify g _)[vb]? = _
      rw [Array.getElem?_modify, if_neg (Ne.symm hne)]
    rw [this]; exact hv
  have hcp2 : ∀ ty dc, (Builtin.copy_ #[22, 22] ty #[.slice (some ⟨g, i * 13, none⟩) (n + 1 - i) dc, .slice (some ⟨vb, 0, none⟩) 1 1]).run Try.prog (w.drew.setRow g R1) = .ok (goInt 1) ((w.drew.setRow g R1).setRow g R2) := fun ty dc => by
    have h := run_copy_rowS (P := Try.prog) (w.drew.setRow g R1) 22 22 ty 30 g (i * 13) (n + 1 - i) dc ⟨vb, 0, none⟩ 1 1 13 R1 30 ec hus info30s (setRow_heap w.drew g cur R1 30 (0, 0) hg) (by rw [hec]; simp only [Nat.min_def]; split <;> omega)
      (fun j v hj => by
        rw [Addr.add_lit]
        refine (blk_cell hvW _).trans ?_
        rw [Nat.zero_add, List.getElem?_toArray]; exact hj)
      (by rw [hec, hR1l, hsz]; omega) h1v
    rw [show Nat.min 1 (n + 1 - i) = 1 by simp only [Nat.min_def]; split <;> omega, ← hR2] at h
    exact h
  have hw1 : IntKind.i64.wrap ((i : Int) + 1) = (i : Int) + 1 := by rw [IntKind.wrap_i64]; omega
  have hw2 : wrap64 ((i : Int) + 1) = (i : Int) + 1 := by unfold wrap64; omega
  have hb1 : (0 : Int) ≤ (i : Int) + 1 := by omega
  have hin : i ≤ n := by omega
  have htn : ((i : Int) + 1).toNat = i + 1 := by omega
  have hb2 : ¬ (cap = i + 1) := by omega
  have hb3 : (i : Int) ≤ (n : Int) + 1 := by omega
  have hb4 : ¬ (cap = i) := by omega
  have hb5 : i ≤ n + 1 := by omega
  clear hmid hR1 hR2 hml hR1l hvW
  have mixed : Try.prog.follows .mixedOrders = true := by kernel_rfl
  go_enter Try.func58, Try.ntmps58
  go_wp2_with (simp only [hov])
  go_region_law_o (refine step_copy_runI rfl _ _ 22 22 rfl _ _ (by simp [Act.eval, Act.put]) (by simp [Act.eval, Act.put]) (hcp1 _ _ _) ?_)
  go_wp2_with (at_builtin; refine wpList_copy_runI _ rfl _ _ 22 22 rfl _ _ rfl rfl (hcp2 _ _) ?_)
  go_ret
  exact ⟨rfl, rfl⟩
def z30v : Value := (.agg #[(.int .i64 0), (.int .i64 0), (.int .i64 0), (.int .i64 0), (.int .i64 0), (.bool false), (.int .i64 0), (.int .i64 0), (.int .i64 0), (.int .i64 0), (.int .i64 0), (.int .i64 0), (.int .i64 0)] : Value)
theorem z30v_size : z30v.cells.size = 13 := by kernel_rfl
set_option maxHeartbeats 8000000 in
set_option maxRecDepth 100000 in
theorem ins_grow (g cap n i vb : Nat) (cur : Array Value) (ec : List Value) (w : World) (hi : i < n) (hnc : n ≤ cap) (hroom : cap < n + 1) (hn : n ≤ 1000000)
    (hg : w.heap[g]? = some (.cells cur 30 (0, 0))) (hsz : cur.size = cap * 13) (hv : w.heap[vb]? = some (.cells ec.toArray 30 (0, 0))) (hec : ec.length = 13)
    (mid : List Value) (hmid : mid = (cur.toList.take (n * 13)).drop (i * 13)) (G : Nat) (hG : G = grownCap w (n + 1) cap 30)
    (ROW R1 R2 : Array Value) (hROW : ROW = (cur.toList.take (i * 13)).toArray ++ Builtin.zeroCells z30v.cells (n + 1 - i) ++ Builtin.zeroCells z30v.cells (G - (n + 1)))
    (hR1 : R1 = (ROW.toList.take (i * 13) ++ ec ++ ROW.toList.drop (i * 13 + ec.length)).toArray) (hR2 : R2 = (R1.toList.take ((i + 1) * 13) ++ mid ++ R1.toList.drop ((i + 1) * 13 + mid.length)).toArray)
    (h1c : ∀ v ∈ mid, v.oneCell' = true) (h1v : ∀ v ∈ ec, v.oneCell' = true) :
    Calls Try.prog 58 #[.slice (some ⟨g, 0, none⟩) n cap, .int .i64 i, .slice (some ⟨vb, 0, none⟩) 1 1] w fun e w' =>
      e = .returned (.slice (some ⟨w.heap.size, 0, none⟩) (n + 1) G) ∧ w' = (((w.drew.alloc (.cells ROW 30)).setRow w.heap.size R1).drew).setRow w.heap.size R2 := by
  have HG := Aside0.mk hG
  clear hG
  have hus := Try.underlying22
  obtain ⟨i0, hi0, hz0, hzs, hzb⟩ := info_parts info30
  have hz2 : ¬ ((i : Int) = (n : Int)) := by omega
  have hci : ¬ (cap = i) := by omega
  have hw1 : IntKind.i64.wrap ((i : Int) + 1) = (i : Int) + 1 := by rw [IntKind.wrap_i64]; omega
  have hw2 : wrap64 ((i : Int) + 1) = (i : Int) + 1 := by unfold wrap64; omega
  have hb1 : (0 : Int) ≤ (i : Int) + 1 := by omega
  have hin : i ≤ n := by omega
  have htn : ((i : Int) + 1).toNat = i + 1 := by omega
  have hb3 : (i : Int) ≤ (n : Int) := by omega
  have hb5 : i ≤ n + 1 := by omega
  have hb6 : i + 1 ≤ n + 1 := by omega
  have hz3 : (cap : Int) < (n : Int) + 1 := by omega
  have hml : mid.length = (n - i) * 13 := by rw [hmid, List.length_drop, List.length_take, Array.length_toList, hsz]; omega
  have hkk : (n : Int) + 1 - (i : Int) = ((n + 1 - i : Nat) : Int) := by omega
  have hik : i + (n + 1 - i) = n + 1 := by omega
  have hold : (Builtin.firstCells i0.size i (.slice (some ⟨g, 0, none⟩) i cap)).run Try.prog w.drew = .ok (cur.toList.take (i * 13)).toArray w.drew := by
    rw [hzs]
    exact run_firstCells_some w.drew 13 i ⟨g, 0, none⟩ i cap (cur.toList.take (i * 13)) (by rw [List.length_take, Array.length_toList, hsz]; omega) (fun j v hj => by
      rw [Addr.add_lit, Nat.zero_add]
      refine (blk_cell hg _).trans ?_
      rw [List.getElem?_take] at hj
      split at hj
      · rw [Array.getElem?_toList] at hj; exact hj
      · cases hj)
  have hrz : ∀ ty, (Builtin.append_ #[22, 3] ty #[.slice (some ⟨g, 0, none⟩) i cap, .int .i64 ((n : Int) + 1 - (i : Int))]).run Try.prog w =
      .ok (.slice (some ⟨w.heap.size, 0, none⟩) (n + 1) G) (w.drew.alloc (.cells ROW 30)) := fun ty => by
    have h := Lib.run_append_grow_zeros w 22 3 ty 30 i0 _ .i64 .i64 hus Try.underlying3 hi0 hz0 (some ⟨g, 0, none⟩) i cap (cur.toList.take (i * 13)) hold (n + 1 - i) (by omega) (by omega) (by omega) (by omega) (by rw [hzb]; omega) (by rw [hzb, hik]; exact growslice_fits hroom (by omega))
    rw [hik, ← HG.out] at h
    rw [hkk, hROW]
    exact h
  have hgw : g < w.heap.size := blk_lt hg
  have hvw : vb < w.heap.size := blk_lt hv
  have hz13 := z30v_size
  have hGn : n + 1 ≤ G := by rw [HG.out]; exact grownCap_ge w _ _ _
  have hG63 : G ≤ 9223372036854775807 := by
    have := grownCap_le_maxLen w (n + 1) cap 30 (by unfold maxLen; omega)
    rw [← HG.out] at this
    unfold maxLen at this
    omega
  have hRs : ROW.size = G * 13 := by
    rw [hROW]
    simp only [Array.size_append, Builtin.zeroCells, Array.size_map, Array.size_range, List.size_toArray, List.length_take, Array.length_toList, hz13, hsz]
    omega
  have hR1l : R1.size = G * 13 := by rw [hR1, List.size_toArray, List.length_append, List.length_append, List.length_take, List.length_drop, Array.length_toList, hec, hRs]; omega
  have hcpA : ∀ (W : World), W.heap = (w.drew.alloc (.cells ROW 30)).heap → ∀ ty dc, (Builtin.copy_ #[22, 22] ty #[.slice (some ⟨w.heap.size, i * 13, none⟩) (n + 1 - i) dc, .slice (some ⟨vb, 0, none⟩) 1 1]).run Try.prog W = .ok (goInt 1) (W.setRow w.heap.size R1) := fun W hW ty dc => by
    have hWn : W.heap[w.heap.size]? = some (.cells ROW 30 (0, 0)) := by rw [hW]; exact blk_new w.drew _
    have hWv : W.heap[vb]? = some (.cells ec.toArray 30 (0, 0)) := by rw [hW]; exact blk_alloc (w := w.drew) hv _
    have h := run_copy_rowS (P := Try.prog) W 22 22 ty 30 w.heap.size (i * 13) (n + 1 - i) dc ⟨vb, 0, none⟩ 1 1 13 ROW 30 ec hus info30s hWn (by rw [hec]; simp only [Nat.min_def]; split <;> omega)
      (fun j v hj => by
        rw [Addr.add_lit]
        refine (blk_cell hWv _).trans ?_
        rw [Nat.zero_add, List.getElem?_toArray]; exact hj)
      (by rw [hec, hRs]; omega) h1v
    rw [show Nat.min 1 (n + 1 - i) = 1 by simp only [Nat.min_def]; split <;> omega, ← hR1] at h
    exact h
  have hcpB : ∀ (W : World), W.heap = ((w.drew.alloc (.cells ROW 30)).setRow w.heap.size R1).heap → ∀ ty dc sc, (Builtin.copy_ #[22, 22] ty #[.slice (some ⟨w.heap.size, (i + 1) * 13, none⟩) (n - i) dc, .slice (some ⟨g, i * 13, none⟩) (n - i) sc]).run Try.prog W = .ok (goInt ((n - i : Nat) : Int)) (W.setRow w.heap.size R2) := fun W hW ty dc sc => by
    have hWn : W.heap[w.heap.size]? = some (.cells R1 30 (0, 0)) := by rw [hW]; exact setRow_heap (w.drew.alloc (.cells ROW 30)) w.heap.size ROW R1 30 (0, 0) (blk_new w.drew _)
    have hWg : W.heap[g]? = some (.cells cur 30 (0, 0)) := by
      rw [hW]
      show ((w.drew.alloc (.cells ROW 30)).heap.modify w.heap.size _)[g]? = _
      rw [Array.getElem?_modify, if_neg (by omega)]
      exact blk_alloc (w := w.drew) hg _
    have h := run_copy_rowS (P := Try.prog) W 22 22 ty 30 w.heap.size ((i + 1) * 13) (n - i) dc ⟨g, i * 13, none⟩ (n - i) sc 13 R1 30 mid hus info30s hWn (by rw [hml]; simp only [Nat.min_def]; split <;> omega)
      (fun j v hj => by
        rw [Addr.add_lit]
        refine (blk_cell hWg _).trans ?_
        rw [hmid, List.getElem?_drop, List.getElem?_take] at hj
        split at hj
        · rw [Array.getElem?_toList] at hj; exact hj
        · cases hj)
      (by rw [hml, hR1l]; omega) h1c
    rw [show Nat.min (n - i) (n - i) = n - i by simp only [Nat.min_def]; split <;> omega, ← hR2] at h
    exact h
  have hGi : ¬ (G = i) := by omega
  have hGim : ¬ (G = i + 1) := by omega
  have hcA := hcpA ((w.alloc (.cells ROW 30)).drew) rfl
  have hcB := hcpB ((((w.alloc (.cells ROW 30)).drew).setRow w.heap.size R1).drew) rfl
  clear hcpA hcpB
  clear hkk hik hold hROW HG hRs hR1l hR1 hR2 hmid hml hz13 hi0 hz0 hzs hzb
  have mixed : Try.prog.follows .mixedOrders = true := by kernel_rfl
  go_enter Try.func58, Try.ntmps58
  go_wp2_with (first
    | (at_builtin; refine Lib.wpList_append_run _ rfl _ _ _ _ rfl _ _ rfl rfl _ _ (hrz _) ?_))
  go_region_law_o (refine step_copy_runI rfl _ _ 22 22 rfl (.slice (some ⟨w.heap.size, (i + 1) * 13, none⟩) (n - i) (G - (i + 1))) (.slice (some ⟨g, i * 13, none⟩) (n - i) (cap - i)) (by simp [Act.eval, Act.put]) (by simp [Act.eval, Act.put]) (hcB 3 (G - (i + 1)) (cap - i)) ?_)
  go_wp2
  go_ret
  exact ⟨rfl, rfl⟩
end Go.Proofs.Yteopkkoblbmggaa.P
end

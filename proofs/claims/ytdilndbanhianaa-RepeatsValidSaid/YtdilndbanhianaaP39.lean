-- Written by a program of this session (myprint.py over the kit's print): the Go functions of the seat as Lean functions, and what their calls do.
import Derived.Test.YtdilndbanhianaaVMA
import Derived.Test.YtdilndbanhianaaP38
namespace Go.Proofs.Ytdilndbanhianaa.P
open Go.RowKit Go.Proofs.YtdilndbanhianaaW.PrintWords Go.Proofs.YtdilndbanhianaaW.PrintLast Go.Proofs.YtdilndbanhianaaW.PrintMore
attribute [local go_sem] max2_int min2_int max_two min_two max_three min_three max_four min_four   -- for this text's walks alone
set_option linter.unusedVariables false
set_option linter.unusedSimpArgs false

/-! ### repeats_follows: function 79 -/
def repeats_follows.l0 : Nat → List (S29) → Int → Int → Int → Int → Option (Int)
 | 0, _, _, _, _, _ => none
 | k + 1, x0, x1, x2, x3, x9 => if x9 < 16 then (if (wrap64 (x2 + (wrap64 ((wrap64 (x9 + 1)) * x3)))) ≤ x1 then ((repeats_same.f k x0 x1 x2 (wrap64 (x2 + x3)) (wrap64 (x2 + (wrap64 (x9 * x3)))) (wrap64 (x2 + (wrap64 ((wrap64 (x9 + 1)) * x3))))).bind fun t539 => (if t539 = true then (repeats_follows.l0 k x0 x1 x2 x3 (wrap64 (x9 + 1))) else (some x9))) else (some x9)) else (some x9)
def repeats_follows.f (k : Nat) (l0 : List (S29)) (a1 : Int) (a2 : Int) (a3 : Int) : Option (Int) := repeats_follows.l0 k l0 a1 a2 a3 1
theorem repeats_follows.mono_l : ∀ k, (∀ y0 y1 y2 y3 y4, LeO (repeats_follows.l0 k y0 y1 y2 y3 y4) (repeats_follows.l0 (k + 1) y0 y1 y2 y3 y4))
 | 0 => fun _ _ _ _ _ r h => by simp [repeats_follows.l0] at h
 | k + 1 => by
  have ih0 := repeats_follows.mono_l k
  ·intro y0 y1 y2 y3 y4
   unfold repeats_follows.l0
   repeat' first
   | (with_reducible exact ih0 _ _ _ _ _)
   | (with_reducible exact repeats_same.mono _ _ _ _ _ _ _)
   | (with_reducible exact LeO.refl _)
   | (with_reducible exact LeO.none _)
   | (with_reducible refine LeO.ite ?_ ?_)
   | (with_reducible refine LeO.bind ?_ (fun _ => ?_))
   | exact ih0 _ _ _ _ _
   | exact repeats_same.mono _ _ _ _ _ _ _
   | exact LeO.none _
   | refine LeO.ite ?_ ?_
   | refine LeO.bind ?_ (fun _ => ?_)
theorem repeats_follows.mono : ∀ a0 a1 a2 a3 k, LeO (repeats_follows.f k a0 a1 a2 a3) (repeats_follows.f (k + 1) a0 a1 a2 a3) := by
 intro a0 a1 a2 a3 k
 have ih0 := repeats_follows.mono_l k
 unfold repeats_follows.f
 repeat' first
   | (with_reducible exact ih0 _ _ _ _ _)
   | (with_reducible exact repeats_same.mono _ _ _ _ _ _ _)
   | (with_reducible exact LeO.refl _)
   | (with_reducible exact LeO.none _)
   | (with_reducible refine LeO.ite ?_ ?_)
   | (with_reducible refine LeO.bind ?_ (fun _ => ?_))
   | exact ih0 _ _ _ _ _
   | exact repeats_same.mono _ _ _ _ _ _ _
   | exact LeO.none _
   | refine LeO.ite ?_ ?_
   | refine LeO.bind ?_ (fun _ => ?_)
set_option maxHeartbeats 8000000 in
set_option maxRecDepth 100000 in
theorem repeats_follows.calls (k : Nat) (A0 : Option Addr) (c0 : Nat) (l0 : List (S29)) (a1 : Int) (a2 : Int) (a3 : Int) (r : Int) (w : World) (hr0 : Kd.C k29 w A0 l0.length l0) (hc0 : l0.length ≤ c0) (h : repeats_follows.f k l0 a1 a2 a3 = some r) :
  Calls Try.prog 79 #[.slice A0 l0.length c0, .int .i64 a1, .int .i64 a2, .int .i64 a3] w fun e w' => e = .returned (.int .i64 r) ∧ Below w.heap.size w w' := by
 have hu45 := Try.underlying45
 have HR0 := Aside0.mk hr0
 have HC0 := Aside0.mk hc0
 clear hr0 hc0
 have HB := Aside0.mk (Below.refl w.heap.size w)
 have H : (repeats_follows.l0 k l0 a1 a2 a3 1) = some r := h
 clear h
 have H' := Aside0.mk H
 clear H
 go_enter Try.func79, Try.ntmps79
 go_wp2
 go_loopg [9] k (fun kq v9 w' => ∃ (x9_1 : Int), v9 = .int .i64 x9_1 ∧ Aside0 (repeats_follows.l0 kq l0 a1 a2 a3 x9_1 = some r) ∧ Aside0 (kq ≤ k) ∧ Aside0 (Below w.heap.size w w'))
 case atStart => exact ⟨(1), (by first | rfl | (simp; done) | (simp [*]; done)), H', ⟨Nat.le_refl _⟩, ⟨hU HB.out⟩⟩
 case round =>
  clear H'
  try clear p2
  obtain ⟨x9_1, rfl, HA, HK1, HB⟩ := hrel
  cases gk with
  | zero => exact absurd HA.out (by simp [repeats_follows.l0])
  | succ k1 =>
   have H := HA.out
   clear HA
   simp only [repeats_follows.l0] at H
   by_cases c5 : x9_1 < 16
   ·rw [if_pos c5] at H
    have c5b0 : decide (x9_1 < 16) = true := decide_eq_true c5
    clear c5
    by_cases c6 : (wrap64 (a2 + (wrap64 ((wrap64 (x9_1 + 1)) * a3)))) ≤ a1
    ·rw [if_pos c6] at H
     have c6b0 : decide ((wrap64 (a2 + (wrap64 ((wrap64 (x9_1 + 1)) * a3)))) ≤ a1) = true := decide_eq_true c6
     clear c6
     replace H := Option.bind_eq_some_iff.mp H
     obtain ⟨t539, A70, H⟩ := H
     replace H : (if t539 = true then (repeats_follows.l0 k1 l0 a1 a2 a3 (wrap64 (x9_1 + 1))) else (some x9_1)) = some r := H
     have A7 := Aside0.mk A70
     clear A70
     by_cases c8 : t539 = true
     ·subst c8
      have H1 : (repeats_follows.l0 k1 l0 a1 a2 a3 (wrap64 (x9_1 + 1))) = some r := by rw [if_pos rfl] at H; exact H
      clear H
      have H := H1
      clear H1
      have H' := Aside0.mk H
      clear H
      go_wp2_with (first | (go_at_call 92; (with_reducible refine (repeats_same.calls k1 _ _ l0 a1 a2 (wrap64 (a2 + a3)) (wrap64 (a2 + (wrap64 (x9_1 * a3)))) (wrap64 (a2 + (wrap64 ((wrap64 (x9_1 + 1)) * a3)))) true _ ?side1 ?side2 A7.out).mono ?_); (case side1 => repeat (first | exact (Kd.C_below HR0.out HB.out) | (with_reducible refine Kd.C_alloc ?_ _) | (with_reducible refine Kd.C_drewN ?_ _) | (with_reducible refine Kd.C_drew ?_))); (case side2 => exact HC0.out); rintro e w9 ⟨rfl, hb⟩; have n0_ := Aside0.mk (below_step (hU HB.out) hb); clear HB; have HB := n0_; clear n0_; (try clear hb); (try clear hb2); (try clear hk); (try clear hi)))
      go_roundg k1
      case measure => have := HK1.out; omega
      case rel => exact ⟨(wrap64 (x9_1 + 1)), (by first | rfl | (simp; done) | (simp [*]; done)), H', ⟨by have := HK1.out; omega⟩, ⟨hU HB.out⟩⟩
     ·replace c8 := Bool.eq_false_iff.mpr c8
      subst c8
      have H1 : (some x9_1) = some r := by rw [if_neg (show ¬ (false = true) by decide)] at H; exact H
      clear H
      have H := H1
      clear H1
      obtain rfl := Option.some.inj H
      go_wp2_with (first | (go_at_call 92; (with_reducible refine (repeats_same.calls k1 _ _ l0 a1 a2 (wrap64 (a2 + a3)) (wrap64 (a2 + (wrap64 (x9_1 * a3)))) (wrap64 (a2 + (wrap64 ((wrap64 (x9_1 + 1)) * a3)))) false _ ?side1 ?side2 A7.out).mono ?_); (case side1 => repeat (first | exact (Kd.C_below HR0.out HB.out) | (with_reducible refine Kd.C_alloc ?_ _) | (with_reducible refine Kd.C_drewN ?_ _) | (with_reducible refine Kd.C_drew ?_))); (case side2 => exact HC0.out); rintro e w10 ⟨rfl, hb⟩; have n0_ := Aside0.mk (below_step (hU HB.out) hb); clear HB; have HB := n0_; clear n0_; (try clear hb); (try clear hb2); (try clear hk); (try clear hi)))
      go_ret
      exact ⟨by first | rfl | (simp [errW_none, errW_some] <;> rfl) | (simp [*, errW_none, errW_some] <;> rfl), hU HB.out⟩
    ·rw [if_neg c6] at H
     have c6b0 : decide ((wrap64 (a2 + (wrap64 ((wrap64 (x9_1 + 1)) * a3)))) ≤ a1) = false := decide_eq_false c6
     clear c6
     obtain rfl := Option.some.inj H
     go_wp2
     go_ret
     exact ⟨by first | rfl | (simp [errW_none, errW_some] <;> rfl) | (simp [*, errW_none, errW_some] <;> rfl), hU HB.out⟩
   ·rw [if_neg c5] at H
    have c5b0 : decide (x9_1 < 16) = false := decide_eq_false c5
    clear c5
    obtain rfl := Option.some.inj H
    go_wp2
    go_ret
    exact ⟨by first | rfl | (simp [errW_none, errW_some] <;> rfl) | (simp [*, errW_none, errW_some] <;> rfl), hU HB.out⟩

end Go.Proofs.Ytdilndbanhianaa.P

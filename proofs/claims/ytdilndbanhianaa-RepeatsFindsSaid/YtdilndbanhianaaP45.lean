-- Written by a program of this session (myprint.py over the kit's print): the Go functions of the seat as Lean functions, and what their calls do.
import Derived.Test.YtdilndbanhianaaVMA
namespace Go.Proofs.Ytdilndbanhianaa.P
open Go.RowKit Go.Proofs.YtdilndbanhianaaW.PrintWords Go.Proofs.YtdilndbanhianaaW.PrintLast Go.Proofs.YtdilndbanhianaaW.PrintMore
attribute [local go_sem] max2_int min2_int max_two min_two max_three min_three max_four min_four   -- for this text's walks alone
set_option linter.unusedVariables false
set_option linter.unusedSimpArgs false

/-! ### dancestudioref26_cut: function 74 -/
def dancestudioref26_cut.l0 : Nat → List (S29) → Int → Int → Option (Bool)
 | 0, _, _, _ => none
 | k + 1, x0, x1, x5 => if x5 < (x0.length : Int) then (if 0 ≤ x5 then (if ((rd_T29 x0 x5).f2) < x1 then (if (wrap64 (((rd_T29 x0 x5).f2) + ((rd_T29 x0 x5).f3))) > x1 then (some false) else (dancestudioref26_cut.l0 k x0 x1 (wrap64 (x5 + 1)))) else (dancestudioref26_cut.l0 k x0 x1 (wrap64 (x5 + 1)))) else (none)) else (some true)
def dancestudioref26_cut.f (k : Nat) (l0 : List (S29)) (a1 : Int) : Option (Bool) := dancestudioref26_cut.l0 k l0 a1 0
theorem dancestudioref26_cut.mono_l : ∀ k, (∀ y0 y1 y2, LeO (dancestudioref26_cut.l0 k y0 y1 y2) (dancestudioref26_cut.l0 (k + 1) y0 y1 y2))
 | 0 => fun _ _ _ r h => by simp [dancestudioref26_cut.l0] at h
 | k + 1 => by
  have ih0 := dancestudioref26_cut.mono_l k
  ·intro y0 y1 y2
   unfold dancestudioref26_cut.l0
   repeat' first
   | (with_reducible exact ih0 _ _ _)
   | (with_reducible exact LeO.refl _)
   | (with_reducible exact LeO.none _)
   | (with_reducible refine LeO.ite ?_ ?_)
   | (with_reducible refine LeO.bind ?_ (fun _ => ?_))
   | exact ih0 _ _ _
   | exact LeO.none _
   | refine LeO.ite ?_ ?_
   | refine LeO.bind ?_ (fun _ => ?_)
theorem dancestudioref26_cut.mono : ∀ a0 a1 k, LeO (dancestudioref26_cut.f k a0 a1) (dancestudioref26_cut.f (k + 1) a0 a1) := by
 intro a0 a1 k
 have ih0 := dancestudioref26_cut.mono_l k
 unfold dancestudioref26_cut.f
 repeat' first
   | (with_reducible exact ih0 _ _ _)
   | (with_reducible exact LeO.refl _)
   | (with_reducible exact LeO.none _)
   | (with_reducible refine LeO.ite ?_ ?_)
   | (with_reducible refine LeO.bind ?_ (fun _ => ?_))
   | exact ih0 _ _ _
   | exact LeO.none _
   | refine LeO.ite ?_ ?_
   | refine LeO.bind ?_ (fun _ => ?_)
set_option maxHeartbeats 8000000 in
set_option maxRecDepth 100000 in
theorem dancestudioref26_cut.calls (k : Nat) (A0 : Option Addr) (c0 : Nat) (l0 : List (S29)) (a1 : Int) (r : Bool) (w : World) (hr0 : Kd.C k29 w A0 l0.length l0) (hc0 : l0.length ≤ c0) (h : dancestudioref26_cut.f k l0 a1 = some r) :
  Calls Try.prog 74 #[.slice A0 l0.length c0, .int .i64 a1] w fun e w' => e = .returned (.bool r) ∧ Drawn0 w w' := by
 have HR0 := Aside0.mk hr0
 have HC0 := Aside0.mk hc0
 clear hr0 hc0
 have H : (dancestudioref26_cut.l0 k l0 a1 0) = some r := h
 clear h
 have H' := Aside0.mk H
 clear H
 go_enter Try.func74, Try.ntmps74
 go_wp2
 repeat (go_quiet (fail); try go_wp2)
 go_loopg [5] k (fun kq v5 w' => ∃ (x5_1 : Int), v5 = .int .i64 x5_1 ∧ Aside0 (dancestudioref26_cut.l0 kq l0 a1 x5_1 = some r) ∧ Aside0 (kq ≤ k) ∧ Drawn0 w w')
 case atStart => exact ⟨(0), (by first | rfl | (simp; done) | (simp [*]; done)), H', ⟨Nat.le_refl _⟩, by repeat (first | exact Drawn0.refl _ | apply Drawn0.step)⟩
 case round =>
  clear H'
  try clear p2
  obtain ⟨x5_1, rfl, HA, HK1, ⟨m1, rfl⟩⟩ := hrel
  cases gk with
  | zero => exact absurd HA.out (by simp [dancestudioref26_cut.l0])
  | succ k1 =>
   have H := HA.out
   clear HA
   simp only [dancestudioref26_cut.l0] at H
   by_cases c3 : x5_1 < (l0.length : Int)
   ·rw [if_pos c3] at H
    have c3b0 : decide (x5_1 < (l0.length : Int)) = true := decide_eq_true c3
    clear c3
    by_cases c4 : 0 ≤ x5_1
    ·rw [if_pos c4] at H
     have c4b0 : decide (0 ≤ x5_1) = true := decide_eq_true c4
     clear c4
     by_cases c5 : ((rd_T29 l0 x5_1).f2) < a1
     ·rw [if_pos c5] at H
      have c5b0 : decide (((rd_T29 l0 x5_1).f2) < a1) = true := decide_eq_true c5
      clear c5
      by_cases c6 : (wrap64 (((rd_T29 l0 x5_1).f2) + ((rd_T29 l0 x5_1).f3))) > a1
      ·rw [if_pos c6] at H
       have c6b0 : decide (a1 < (wrap64 (((rd_T29 l0 x5_1).f2) + ((rd_T29 l0 x5_1).f3)))) = true := decide_eq_true c6
       clear c6
       obtain rfl := Option.some.inj H
       have p769 : 0 ≤ (x5_1 : Int) := of_decide_eq_true (by first | (with_reducible assumption) | assumption)
       have q769 : x5_1 < (l0.length : Int) := of_decide_eq_true (by first | (with_reducible assumption) | assumption)
       obtain ⟨ad769, e769, hx769_0, hx769_1, hx769_2, hx769_3, hx769_4, hx769_5, hx769_6⟩ := at_T29 HR0.out x5_1 p769 q769
       cases e769
       replace p769 := eq_true p769
       replace q769 := eq_true q769
       have p770 : 0 ≤ (x5_1 : Int) := of_decide_eq_true (by first | (with_reducible assumption) | assumption)
       have q770 : x5_1 < (l0.length : Int) := of_decide_eq_true (by first | (with_reducible assumption) | assumption)
       obtain ⟨ad770, e770, hx770_0, hx770_1, hx770_2, hx770_3, hx770_4, hx770_5, hx770_6⟩ := at_T29 HR0.out x5_1 p770 q770
       obtain rfl : ad769 = ad770 := (by injection e770)
       replace p770 := eq_true p770
       replace q770 := eq_true q770
       have p771 : 0 ≤ (x5_1 : Int) := of_decide_eq_true (by first | (with_reducible assumption) | assumption)
       have q771 : x5_1 < (l0.length : Int) := of_decide_eq_true (by first | (with_reducible assumption) | assumption)
       obtain ⟨ad771, e771, hx771_0, hx771_1, hx771_2, hx771_3, hx771_4, hx771_5, hx771_6⟩ := at_T29 HR0.out x5_1 p771 q771
       obtain rfl : ad769 = ad771 := (by injection e771)
       replace p771 := eq_true p771
       replace q771 := eq_true q771
       go_wp2
       repeat (go_quiet (fail); try go_wp2)
       go_ret
       exact ⟨by first | rfl | (simp; done) | (simp [*]; done), by repeat (first | exact Drawn0.refl _ | apply Drawn0.step)⟩
      ·rw [if_neg c6] at H
       have c6b0 : decide (a1 < (wrap64 (((rd_T29 l0 x5_1).f2) + ((rd_T29 l0 x5_1).f3)))) = false := decide_eq_false c6
       clear c6
       have H' := Aside0.mk H
       clear H
       have p769 : 0 ≤ (x5_1 : Int) := of_decide_eq_true (by first | (with_reducible assumption) | assumption)
       have q769 : x5_1 < (l0.length : Int) := of_decide_eq_true (by first | (with_reducible assumption) | assumption)
       obtain ⟨ad769, e769, hx769_0, hx769_1, hx769_2, hx769_3, hx769_4, hx769_5, hx769_6⟩ := at_T29 HR0.out x5_1 p769 q769
       cases e769
       replace p769 := eq_true p769
       replace q769 := eq_true q769
       have p770 : 0 ≤ (x5_1 : Int) := of_decide_eq_true (by first | (with_reducible assumption) | assumption)
       have q770 : x5_1 < (l0.length : Int) := of_decide_eq_true (by first | (with_reducible assumption) | assumption)
       obtain ⟨ad770, e770, hx770_0, hx770_1, hx770_2, hx770_3, hx770_4, hx770_5, hx770_6⟩ := at_T29 HR0.out x5_1 p770 q770
       obtain rfl : ad769 = ad770 := (by injection e770)
       replace p770 := eq_true p770
       replace q770 := eq_true q770
       have p771 : 0 ≤ (x5_1 : Int) := of_decide_eq_true (by first | (with_reducible assumption) | assumption)
       have q771 : x5_1 < (l0.length : Int) := of_decide_eq_true (by first | (with_reducible assumption) | assumption)
       obtain ⟨ad771, e771, hx771_0, hx771_1, hx771_2, hx771_3, hx771_4, hx771_5, hx771_6⟩ := at_T29 HR0.out x5_1 p771 q771
       obtain rfl : ad769 = ad771 := (by injection e771)
       replace p771 := eq_true p771
       replace q771 := eq_true q771
       go_wp2
       repeat (go_quiet (fail); try go_wp2)
       go_roundg k1
       case measure => have := HK1.out; omega
       case rel => exact ⟨(wrap64 (x5_1 + 1)), (by first | rfl | (simp; done) | (simp [*]; done)), H', ⟨by have := HK1.out; omega⟩, by repeat (first | exact Drawn0.refl _ | apply Drawn0.step)⟩
     ·rw [if_neg c5] at H
      have c5b0 : decide (((rd_T29 l0 x5_1).f2) < a1) = false := decide_eq_false c5
      clear c5
      have H' := Aside0.mk H
      clear H
      have p769 : 0 ≤ (x5_1 : Int) := of_decide_eq_true (by first | (with_reducible assumption) | assumption)
      have q769 : x5_1 < (l0.length : Int) := of_decide_eq_true (by first | (with_reducible assumption) | assumption)
      obtain ⟨ad769, e769, hx769_0, hx769_1, hx769_2, hx769_3, hx769_4, hx769_5, hx769_6⟩ := at_T29 HR0.out x5_1 p769 q769
      cases e769
      replace p769 := eq_true p769
      replace q769 := eq_true q769
      go_wp2
      repeat (go_quiet (fail); try go_wp2)
      go_roundg k1
      case measure => have := HK1.out; omega
      case rel => exact ⟨(wrap64 (x5_1 + 1)), (by first | rfl | (simp; done) | (simp [*]; done)), H', ⟨by have := HK1.out; omega⟩, by repeat (first | exact Drawn0.refl _ | apply Drawn0.step)⟩
    ·rw [if_neg c4] at H
     exact absurd H (by simp)
   ·rw [if_neg c3] at H
    have c3b0 : decide (x5_1 < (l0.length : Int)) = false := decide_eq_false c3
    clear c3
    obtain rfl := Option.some.inj H
    go_wp2
    repeat (go_quiet (fail); try go_wp2)
    go_ret
    exact ⟨by first | rfl | (simp; done) | (simp [*]; done), by repeat (first | exact Drawn0.refl _ | apply Drawn0.step)⟩

end Go.Proofs.Ytdilndbanhianaa.P

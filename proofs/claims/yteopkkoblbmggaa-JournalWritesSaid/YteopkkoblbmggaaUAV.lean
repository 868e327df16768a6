/- Texts of this claim in one: VP29; no condition. -/
import Derived.Test.YteopkkoblbmggaaUAD
import Derived.Test.YteopkkoblbmggaaUAR
import Derived.Test.YteopkkoblbmggaaUAT
import Derived.Test.YteopkkoblbmggaaUAU
section
namespace Go.Proofs.Yteopkkoblbmggaa.P
open Go.RowKit Go.Proofs.YteopkkoblbmggaaW.PrintWords Go.Proofs.YteopkkoblbmggaaW.PrintLast Go.Proofs.YteopkkoblbmggaaW.PrintMore
attribute [local go_sem] max2_int min2_int max_two min_two max_three min_three max_four min_four
set_option linter.unusedVariables false
set_option linter.unusedSimpArgs false
/-! ### dancestudioref57_Check: function 34 -/
mutual
def dancestudioref57_Check.j0 : Nat → Bool → Int → List (S30) → Option (Int)
 | 0, _, _, _ => none
 | k + 1, x14, x490000, x490001 => if x14 = true then (some 43) else (if (x490001.length : Int) > 512 then (some 3) else (dancestudioref57_Check.l0 k 0 x490000 x490001))
def dancestudioref57_Check.l0 : Nat → Int → Int → List (S30) → Option (Int)
 | 0, _, _, _ => none
 | k + 1, x3, x490000, x490001 => if x3 < (x490001.length : Int) then (if 0 ≤ x3 then ((dancestudioref56_Check.f k ((rd_T30 x490001 x3).f0.f0) ((rd_T30 x490001 x3).f0.f1) ((rd_T30 x490001 x3).f1) ((rd_T30 x490001 x3).f2.f0) ((rd_T30 x490001 x3).f2.f1) ((rd_T30 x490001 x3).f3) ((rd_T30 x490001 x3).f4.f0) ((rd_T30 x490001 x3).f4.f1) ((rd_T30 x490001 x3).f4.f2) ((rd_T30 x490001 x3).f4.f3) ((rd_T30 x490001 x3).f4.f4) ((rd_T30 x490001 x3).f4.f5) ((rd_T30 x490001 x3).f4.f6)).bind fun t491 => (if t491 = 0 then (dancestudioref57_Check.l0 k (wrap64 (x3 + 1)) x490000 x490001) else (some t491))) else (none)) else (dancestudioref57_Check.l1 k 1 x490000 x490001)
def dancestudioref57_Check.l1 : Nat → Int → Int → List (S30) → Option (Int)
 | 0, _, _, _ => none
 | k + 1, x5, x490000, x490001 => if x5 < (x490001.length : Int) then (if 0 ≤ (wrap64 (x5 - 1)) then (if (wrap64 (x5 - 1)) < (x490001.length : Int) then (if 0 ≤ x5 then ((dancestudioref56_Less.f ((rd_T30 x490001 (wrap64 (x5 - 1))).f0.f0) ((rd_T30 x490001 (wrap64 (x5 - 1))).f0.f1) ((rd_T30 x490001 x5).f0.f0) ((rd_T30 x490001 x5).f0.f1)).bind fun t494 => (if t494 = true then (dancestudioref57_Check.l1 k (wrap64 (x5 + 1)) x490000 x490001) else (some 5))) else (none)) else (none)) else (none)) else (dancestudioref57_Check.l2 k 0 x490000 x490001)
def dancestudioref57_Check.l2 : Nat → Int → Int → List (S30) → Option (Int)
 | 0, _, _, _ => none
 | k + 1, x6, x490000, x490001 => if x6 < (x490001.length : Int) then (if 0 ≤ x6 then ((dancestudioref57_founded.f k x490001 ((rd_T30 x490001 x6).f0.f0) ((rd_T30 x490001 x6).f0.f1) ((rd_T30 x490001 x6).f1) ((rd_T30 x490001 x6).f2.f0) ((rd_T30 x490001 x6).f2.f1) ((rd_T30 x490001 x6).f3) ((rd_T30 x490001 x6).f4.f0) ((rd_T30 x490001 x6).f4.f1) ((rd_T30 x490001 x6).f4.f2) ((rd_T30 x490001 x6).f4.f3) ((rd_T30 x490001 x6).f4.f4) ((rd_T30 x490001 x6).f4.f5) ((rd_T30 x490001 x6).f4.f6)).bind fun t496 => (if t496 = true then (dancestudioref57_Check.l2 k (wrap64 (x6 + 1)) x490000 x490001) else (some 6))) else (none)) else (some 0)
end
def dancestudioref57_Check.f (k : Nat) (a0_0 : Int) (l0_1 : List (S30)) : Option (Int) := if a0_0 < 1 then (dancestudioref57_Check.j0 k true a0_0 l0_1) else (dancestudioref57_Check.j0 k (decide (a0_0 > 64)) a0_0 l0_1)
theorem dancestudioref57_Check.mono_l : ∀ k, (∀ y0 y1 y2, LeO (dancestudioref57_Check.j0 k y0 y1 y2) (dancestudioref57_Check.j0 (k + 1) y0 y1 y2)) ∧ (∀ y0 y1 y2, LeO (dancestudioref57_Check.l0 k y0 y1 y2) (dancestudioref57_Check.l0 (k + 1) y0 y1 y2)) ∧ (∀ y0 y1 y2, LeO (dancestudioref57_Check.l1 k y0 y1 y2) (dancestudioref57_Check.l1 (k + 1) y0 y1 y2)) ∧ (∀ y0 y1 y2, LeO (dancestudioref57_Check.l2 k y0 y1 y2) (dancestudioref57_Check.l2 (k + 1) y0 y1 y2))
 | 0 => ⟨fun _ _ _ r h => by simp [dancestudioref57_Check.j0] at h, fun _ _ _ r h => by simp [dancestudioref57_Check.l0] at h, fun _ _ _ r h => by simp [dancestudioref57_Check.l1] at h, fun _ _ _ r h => by simp [dancestudioref57_Check.l2] at h⟩
 | k + 1 => by
  obtain ⟨ih0, ih1, ih2, ih3⟩ := dancestudioref57_Check.mono_l k
  refine ⟨?_, ?_, ?_, ?_⟩
  ·intro y0 y1 y2
   unfold dancestudioref57_Check.j0
   repeat' first
   | (with_reducible exact ih0 _ _ _)
   | (with_reducible exact ih1 _ _ _)
   | (with_reducible exact ih2 _ _ _)
   | (with_reducible exact ih3 _ _ _)
   | (with_reducible exact dancestudioref56_Check.mono _ _ _ _ _ _ _ _ _ _ _ _ _ _)
   | (with_reducible exact dancestudioref57_founded.mono _ _ _ _ _ _ _ _ _ _ _ _ _ _ _)
   | (with_reducible exact LeO.refl _)
   | (with_reducible exact LeO.none _)
   | (with_reducible refine LeO.ite ?_ ?_)
   | (with_reducible refine LeO.bind ?_ (fun _ => ?_))
   | exact ih0 _ _ _
   | exact ih1 _ _ _
   | exact ih2 _ _ _
   | exact ih3 _ _ _
   | exact dancestudioref56_Check.mono _ _ _ _ _ _ _ _ _ _ _ _ _ _
   | exact dancestudioref57_founded.mono _ _ _ _ _ _ _ _ _ _ _ _ _ _ _
   | exact LeO.none _
   | refine LeO.ite ?_ ?_
   | refine LeO.bind ?_ (fun _ => ?_)
  ·intro y0 y1 y2
   unfold dancestudioref57_Check.l0
   repeat' first
   | (with_reducible exact ih0 _ _ _)
   | (with_reducible exact ih1 _ _ _)
   | (with_reducible exact ih2 _ _ _)
   | (with_reducible exact ih3 _ _ _)
   | (with_reducible exact dancestudioref56_Check.mono _ _ _ _ _ _ _ _ _ _ _ _ _ _)
   | (with_reducible exact dancestudioref57_founded.mono _ _ _ _ _ _ _ _ _ _ _ _ _ _ _)
   | (with_reducible exact LeO.refl _)
   | (with_reducible exact LeO.none _)
   | (with_reducible refine LeO.ite ?_ ?_)
   | (with_reducible refine LeO.bind ?_ (fun _ => ?_))
   | exact ih0 _ _ _
   | exact ih1 _ _ _
   | exact ih2 _ _ _
   | exact ih3 _ _ _
   | exact dancestudioref56_Check.mono _ _ _ _ _ _ _ _ _ _ _ _ _ _
   | exact dancestudioref57_founded.mono _ _ _ _ _ _ _ _ _ _ _ _ _ _ _
   | exact LeO.none _
   | refine LeO.ite ?_ ?_
   | refine LeO.bind ?_ (fun _ => ?_)
  ·intro y0 y1 y2
   unfold dancestudioref57_Check.l1
   repeat' first
   | (with_reducible exact ih0 _ _ _)
   | (with_reducible exact ih1 _ _ _)
   | (with_reducible exact ih2 _ _ _)
   | (with_reducible exact ih3 _ _ _)
   | (with_reducible exact dancestudioref56_Check.mono _ _ _ _ _ _ _ _ _ _ _ _ _ _)
   | (with_reducible exact dancestudioref57_founded.mono _ _ _ _ _ _ _ _ _ _ _ _ _ _ _)
   | (with_reducible exact LeO.refl _)
   | (with_reducible exact LeO.none _)
   | (with_reducible refine LeO.ite ?_ ?_)
   | (with_reducible refine LeO.bind ?_ (fun _ => ?_))
   | exact ih0 _ _ _
   | exact ih1 _ _ _
   | exact ih2 _ _ _
   | exact ih3 _ _ _
   | exact dancestudioref56_Check.mono _ _ _ _ _ _ _ _ _ _ _ _ _ _
   | exact dancestudioref57_founded.mono _ _ _ _ _ _ _ _ _ _ _ _ _ _ _
   | exact LeO.none _
   | refine LeO.ite ?_ ?_
   | refine LeO.bind ?_ (fun _ => ?_)
  ·intro y0 y1 y2
   unfold dancestudioref57_Check.l2
   repeat' first
   | (with_reducible exact ih0 _ _ _)
   | (with_reducible exact ih1 _ _ _)
   | (with_reducible exact ih2 _ _ _)
   | (with_reducible exact ih3 _ _ _)
   | (with_reducible exact dancestudioref56_Check.mono _ _ _ _ _ _ _ _ _ _ _ _ _ _)
   | (with_reducible exact dancestudioref57_founded.mono _ _ _ _ _ _ _ _ _ _ _ _ _ _ _)
   | (with_reducible exact LeO.refl _)
   | (with_reducible exact LeO.none _)
   | (with_reducible refine LeO.ite ?_ ?_)
   | (with_reducible refine LeO.bind ?_ (fun _ => ?_))
   | exact ih0 _ _ _
   | exact ih1 _ _ _
   | exact ih2 _ _ _
   | exact ih3 _ _ _
   | exact dancestudioref56_Check.mono _ _ _ _ _ _ _ _ _ _ _ _ _ _
   | exact dancestudioref57_founded.mono _ _ _ _ _ _ _ _ _ _ _ _ _ _ _
   | exact LeO.none _
   | refine LeO.ite ?_ ?_
   | refine LeO.bind ?_ (fun _ => ?_)
theorem dancestudioref57_Check.mono : ∀ a0 a1 k, LeO (dancestudioref57_Check.f k a0 a1) (dancestudioref57_Check.f (k + 1) a0 a1) := by
 intro a0 a1 k
 obtain ⟨ih0, ih1, ih2, ih3⟩ := dancestudioref57_Check.mono_l k
 unfold dancestudioref57_Check.f
 repeat' first
   | (with_reducible exact ih0 _ _ _)
   | (with_reducible exact ih1 _ _ _)
   | (with_reducible exact ih2 _ _ _)
   | (with_reducible exact ih3 _ _ _)
   | (with_reducible exact dancestudioref56_Check.mono _ _ _ _ _ _ _ _ _ _ _ _ _ _)
   | (with_reducible exact dancestudioref57_founded.mono _ _ _ _ _ _ _ _ _ _ _ _ _ _ _)
   | (with_reducible exact LeO.refl _)
   | (with_reducible exact LeO.none _)
   | (with_reducible refine LeO.ite ?_ ?_)
   | (with_reducible refine LeO.bind ?_ (fun _ => ?_))
   | exact ih0 _ _ _
   | exact ih1 _ _ _
   | exact ih2 _ _ _
   | exact ih3 _ _ _
   | exact dancestudioref56_Check.mono _ _ _ _ _ _ _ _ _ _ _ _ _ _
   | exact dancestudioref57_founded.mono _ _ _ _ _ _ _ _ _ _ _ _ _ _ _
   | exact LeO.none _
   | refine LeO.ite ?_ ?_
   | refine LeO.bind ?_ (fun _ => ?_)
def dancestudioref57_Check.T14 : Bool × List (List Nat × List Nat) := (true, [([], []), ([0], [0]), ([], []), ([2], [2]), ([1, 3], [1, 3]), ([4], [4]), ([5], [5]), ([], []), ([7], [7]), ([], []), ([8, 9], [8, 9]), ([10], [10]), ([11], [11]), ([6, 12], [6, 12]), ([13], [13])])
def dancestudioref57_Check.B14 : List Nat := [0, 1, 0, 4, 15, 31, 63, 0, 128, 0, 896, 1920, 3968, 8191, 16383]
theorem dancestudioref57_Check.tab14 : rtab .any (opsOf Try.f34 14) = dancestudioref57_Check.T14 := by kernel_rfl
theorem dancestudioref57_Check.bits14 : waitsOk dancestudioref57_Check.T14.2 dancestudioref57_Check.B14 = true := by kernel_rfl
def dancestudioref57_Check.T19 : Bool × List (List Nat × List Nat) := (true, [([], []), ([0], [0]), ([], []), ([2], [2]), ([], []), ([3, 4], [3, 4]), ([5], [5]), ([1, 6], [1, 6]), ([7], [7])])
def dancestudioref57_Check.B19 : List Nat := [0, 1, 0, 4, 0, 28, 60, 127, 255]
theorem dancestudioref57_Check.tab19 : rtab .any (opsOf Try.f34 19) = dancestudioref57_Check.T19 := by kernel_rfl
theorem dancestudioref57_Check.bits19 : waitsOk dancestudioref57_Check.T19.2 dancestudioref57_Check.B19 = true := by kernel_rfl
set_option maxHeartbeats 8000000 in
set_option maxRecDepth 100000 in
theorem dancestudioref57_Check.calls (k : Nat) (a0_0 : Int) (A0_1 : Option Addr) (c0_1 : Nat) (l0_1 : List (S30)) (r : Int) (w : World) (hr0_1 : Kd.C k30 w A0_1 l0_1.length l0_1) (hc0_1 : l0_1.length ≤ c0_1) (h : dancestudioref57_Check.f k a0_0 l0_1 = some r) :
  Calls Try.prog 34 #[.agg #[.int .i64 a0_0, .slice A0_1 l0_1.length c0_1]] w fun e w' => e = .returned (.int .i64 r) ∧ Below w.heap.size w w' := by
 have hu24 := Try.underlying24
 have hu30 := Try.underlying30
 have hu26 := Try.underlying26
 have HR0_1 := Aside0.mk hr0_1
 have HC0_1 := Aside0.mk hc0_1
 clear hr0_1 hc0_1
 have HB := Aside0.mk (Below.refl w.heap.size w)
 have H : (if a0_0 < 1 then (dancestudioref57_Check.j0 k true a0_0 l0_1) else (dancestudioref57_Check.j0 k (decide (a0_0 > 64)) a0_0 l0_1)) = some r := h
 clear h
 have HC2 := Aside0.mk H
 clear H
 go_enter Try.func34, Try.ntmps34
 go_upto_region 1 with (first | ((with_reducible refine gate_dst (N := 1) rfl ?_); refine box_event ?hg (N := 1) ?hd (cs := #[.int .i64 a0_0, .slice A0_1 l0_1.length c0_1]) (t := 24) ?hr ?_; (case hd => rfl); (case hg => rfl); (case hr => first | (go_simp; done) | (go_simp; rfl)); intro gb489 hg w3 hbox hb; have n0_ := Aside0.mk (below_step (hU HB.out) hb); have n1_ := Aside0.mk (hbox); have n2_ := Aside0.mk ((by rw [hg]; exact (below_size (hU HB.out)) : w.heap.size ≤ gb489)); have n3_ := Aside0.mk ((by rw [hg]; exact (below_size (hU HB.out)) : w.heap.size ≤ gb489)); clear HB; have HB := n0_; have BK489 := n1_; have GW489 := n2_; have GE489 := n3_; clear n0_ n1_ n2_ n3_; clear hb hbox hg))
 (try simp only [Act.put, List.setIfInBounds_toArray, List.set_cons_zero, List.set_cons_succ])
 go_cut [14] (fun v14 wc => ∃ (kq : Nat) (x14_1 : Bool), v14 = .bool x14_1 ∧ Aside0 (dancestudioref57_Check.j0 kq x14_1 a0_0 l0_1 = some r) ∧ Aside0 (kq ≤ k) ∧ Aside0 (wc.heap[gb489]? = some (.cells #[.int .i64 a0_0, (.slice A0_1 l0_1.length c0_1)] 24 (0, 0))) ∧ Aside0 (Below w.heap.size w wc))
 case first =>
  have H := HC2.out
  clear HC2
  by_cases c4 : a0_0 < 1
  ·rw [if_pos c4] at H
   have c4b0 : decide (a0_0 < 1) = true := decide_eq_true c4
   clear c4
   (first | rw [c4b0] | (simp only [i64_w, i32_w]; rw [c4b0]) | skip)
   have H' := Aside0.mk H
   clear H
   have hcz5_0 := blk_cell BK489.out
   have hfz5_0 := blk_frozen BK489.out
   go_wp2
   go_meet
   case rel => exact ⟨_, (true), (by first | rfl | (simp; done) | (simp [*]; done)), H', ⟨by first | omega | exact Nat.le_refl _⟩, ⟨by (with_reducible repeat (first | refine blk_drewN ?_ _ | refine blk_drew ?_ | refine blk_alloc ?_ _)); exact BK489.out⟩, ⟨hU HB.out⟩⟩
  ·rw [if_neg c4] at H
   have c4b0 : decide (a0_0 < 1) = false := decide_eq_false c4
   clear c4
   (first | rw [c4b0] | (simp only [i64_w, i32_w]; rw [c4b0]) | skip)
   have H' := Aside0.mk H
   clear H
   have hcz6_0 := blk_cell BK489.out
   have hfz6_0 := blk_frozen BK489.out
   go_wp2
   go_meet
   case rel => exact ⟨_, (decide (a0_0 > 64)), (by first | rfl | (simp; done) | (simp [*]; done)), H', ⟨by first | omega | exact Nat.le_refl _⟩, ⟨by (with_reducible repeat (first | refine blk_drewN ?_ _ | refine blk_drew ?_ | refine blk_alloc ?_ _)); exact BK489.out⟩, ⟨hU HB.out⟩⟩
 case rest =>
  clear HC2
  try clear p2
  try clear c3
  try clear c4
  try clear c4b0
  try clear hcz5_0
  try clear hcz5_1
  try clear hcz6_0
  try clear hcz6_1
  try clear hfz5_0
  try clear hfz5_1
  try clear hfz6_0
  try clear hfz6_1
  obtain ⟨kq, x14_1, rfl, HA, HJ1, BK489, HB⟩ := hcut
  cases kq with
  | zero => exact absurd HA.out (by simp [dancestudioref57_Check.j0])
  | succ kj1 =>
   have H := HA.out
   clear HA
   simp only [dancestudioref57_Check.j0] at H
   by_cases c7 : x14_1 = true
   ·subst c7
    have H1 : (some 43) = some r := by rw [if_pos rfl] at H; exact H
    clear H
    have H := H1
    clear H1
    obtain rfl := Option.some.inj H
    go_wp2
    go_ret
    exact ⟨by first | rfl | (simp [errW_none, errW_some] <;> rfl) | (simp [*, errW_none, errW_some] <;> rfl), hU HB.out⟩
   ·replace c7 := Bool.eq_false_iff.mpr c7
    subst c7
    have H1 : (if (l0_1.length : Int) > 512 then (some 3) else (dancestudioref57_Check.l0 kj1 0 a0_0 l0_1)) = some r := by rw [if_neg (show ¬ (false = true) by decide)] at H; exact H
    clear H
    have H := H1
    clear H1
    by_cases c8 : (l0_1.length : Int) > 512
    ·rw [if_pos c8] at H
     have c8b0 : decide (512 < (l0_1.length : Int)) = true := decide_eq_true c8
     have c8b1 : decide (512 < l0_1.length) = true := decide_eq_true (by omega)
     clear c8
     obtain rfl := Option.some.inj H
     have hcz9_0 := blk_cell BK489.out
     have hfz9_0 := blk_frozen BK489.out
     go_wp2
     go_ret
     exact ⟨by first | rfl | (simp [errW_none, errW_some] <;> rfl) | (simp [*, errW_none, errW_some] <;> rfl), hU HB.out⟩
    ·rw [if_neg c8] at H
     have c8b0 : decide (512 < (l0_1.length : Int)) = false := decide_eq_false c8
     have c8b1 : decide (512 < l0_1.length) = false := decide_eq_false (by omega)
     clear c8
     have H' := Aside0.mk H
     clear H
     have hcz10_0 := blk_cell BK489.out
     have hfz10_0 := blk_frozen BK489.out
     go_wp2
     go_loopg [3] kj1 (fun kq v3 w' => ∃ (x3_2 : Int), v3 = .int .i64 x3_2 ∧ Aside0 (dancestudioref57_Check.l0 kq x3_2 a0_0 l0_1 = some r) ∧ Aside0 (kq ≤ kj1) ∧ Aside0 (w'.heap[gb489]? = some (.cells #[.int .i64 a0_0, (.slice A0_1 l0_1.length c0_1)] 24 (0, 0))) ∧ Aside0 (Below w.heap.size w w'))
     case atStart => exact ⟨(0), (by first | rfl | (simp; done) | (simp [*]; done)), H', ⟨Nat.le_refl _⟩, ⟨by (with_reducible repeat (first | refine blk_drewN ?_ _ | refine blk_drew ?_ | refine blk_alloc ?_ _)); exact BK489.out⟩, ⟨hU HB.out⟩⟩
     case round =>
      clear H'
      try clear p2
      try clear c3
      try clear c4
      try clear c4b0
      try clear c7
      try clear c8
      try clear c8b0
      try clear c8b1
      try clear hcz10_0
      try clear hcz10_1
      try clear hcz5_0
      try clear hcz5_1
      try clear hcz6_0
      try clear hcz6_1
      try clear hcz9_0
      try clear hcz9_1
      try clear hfz10_0
      try clear hfz10_1
      try clear hfz5_0
      try clear hfz5_1
      try clear hfz6_0
      try clear hfz6_1
      try clear hfz9_0
      try clear hfz9_1
      try clear p2
      obtain ⟨x3_2, rfl, HA, HK2, BK489, HB⟩ := hrel
      cases gk with
      | zero => exact absurd HA.out (by simp [dancestudioref57_Check.l0])
      | succ k2 =>
       have H := HA.out
       clear HA
       simp only [dancestudioref57_Check.l0] at H
       by_cases c11 : x3_2 < (l0_1.length : Int)
       ·rw [if_pos c11] at H
        have c11b0 : decide (x3_2 < (l0_1.length : Int)) = true := decide_eq_true c11
        clear c11
        by_cases c12 : 0 ≤ x3_2
        rotate_left
        ·rw [if_neg c12] at H
         exact absurd H (by simp)
        rw [if_pos c12] at H
        have c12b0 : decide (0 ≤ x3_2) = true := decide_eq_true c12
        clear c12
        replace H := Option.bind_eq_some_iff.mp H
        obtain ⟨t491, A130, H⟩ := H
        replace H : (if t491 = 0 then (dancestudioref57_Check.l0 k2 (wrap64 (x3_2 + 1)) a0_0 l0_1) else (some t491)) = some r := H
        have A13 := Aside0.mk A130
        clear A130
        by_cases c14 : t491 = 0
        ·rw [if_pos c14] at H
         have c14b0 : (t491 == 0) = true := beq_iff_eq.mpr c14
         have c14b1 : (t491 != 0) = false := bne_eq_false_iff_eq.mpr c14
         clear c14
         have H' := Aside0.mk H
         clear H
         have hcz15_0 := blk_cell BK489.out
         have hfz15_0 := blk_frozen BK489.out
         have p490 : 0 ≤ (x3_2 : Int) := of_decide_eq_true (by first | (with_reducible assumption) | assumption)
         have q490 : x3_2 < (l0_1.length : Int) := of_decide_eq_true (by first | (with_reducible assumption) | assumption)
         obtain ⟨ad490, e490, hx490_0, hx490_1, hx490_2, hx490_3, hx490_4, hx490_5, hx490_6, hx490_7, hx490_8, hx490_9, hx490_10, hx490_11, hx490_12⟩ := at_T30 HR0_1.out x3_2 p490 q490
         cases e490
         replace hx490_0 := hbC HB hx490_0
         replace hx490_1 := hbC HB hx490_1
         replace hx490_2 := hbC HB hx490_2
         replace hx490_3 := hbC HB hx490_3
         replace hx490_4 := hbC HB hx490_4
         replace hx490_5 := hbC HB hx490_5
         replace hx490_6 := hbC HB hx490_6
         replace hx490_7 := hbC HB hx490_7
         replace hx490_8 := hbC HB hx490_8
         replace hx490_9 := hbC HB hx490_9
         replace hx490_10 := hbC HB hx490_10
         replace hx490_11 := hbC HB hx490_11
         replace hx490_12 := hbC HB hx490_12
         replace p490 := eq_true p490
         replace q490 := eq_true q490
         go_wp2_with (first | ((with_reducible refine gate_callee (f := 59) rfl ?_); refine goesL_ (some 31) rfl rfl Try.func59 (by kernel_rfl) rfl #[.agg #[.int .i64 ((rd_T30 l0_1 x3_2).f0.f0), .int .i64 ((rd_T30 l0_1 x3_2).f0.f1), .int .i64 ((rd_T30 l0_1 x3_2).f1), .int .i64 ((rd_T30 l0_1 x3_2).f2.f0), .int .i64 ((rd_T30 l0_1 x3_2).f2.f1), .bool ((rd_T30 l0_1 x3_2).f3), .int .i64 ((rd_T30 l0_1 x3_2).f4.f0), .int .i64 ((rd_T30 l0_1 x3_2).f4.f1), .int .i64 ((rd_T30 l0_1 x3_2).f4.f2), .int .i64 ((rd_T30 l0_1 x3_2).f4.f3), .int .i64 ((rd_T30 l0_1 x3_2).f4.f4), .int .i64 ((rd_T30 l0_1 x3_2).f4.f5), .int .i64 ((rd_T30 l0_1 x3_2).f4.f6)]] rfl (by (try simp only [List.map_toArray, List.map_cons, List.map_nil]); first | done | rfl | (simp only [List.length_drop, List.length_take]; rfl)) ?_; (with_reducible refine (dancestudioref56_Check.calls k2 ((rd_T30 l0_1 x3_2).f0.f0) ((rd_T30 l0_1 x3_2).f0.f1) ((rd_T30 l0_1 x3_2).f1) ((rd_T30 l0_1 x3_2).f2.f0) ((rd_T30 l0_1 x3_2).f2.f1) ((rd_T30 l0_1 x3_2).f3) ((rd_T30 l0_1 x3_2).f4.f0) ((rd_T30 l0_1 x3_2).f4.f1) ((rd_T30 l0_1 x3_2).f4.f2) ((rd_T30 l0_1 x3_2).f4.f3) ((rd_T30 l0_1 x3_2).f4.f4) ((rd_T30 l0_1 x3_2).f4.f5) ((rd_T30 l0_1 x3_2).f4.f6) t491 _ A13.out).mono ?_); rintro e w16 ⟨rfl, hb⟩; refine ⟨_, rfl, ?_⟩; replace BK489 := Aside0.mk (blk_below (bU BK489.out) hb); replace HB := Aside0.mk (below_step (hU HB.out) hb); (try clear hb); (try clear hb2); (try clear hk); (try clear hi)))
         go_roundg k2
         case measure => have := HJ1.out; have := HK2.out; omega
         case rel => exact ⟨(wrap64 (x3_2 + 1)), (by first | rfl | (simp; done) | (simp [*]; done)), H', ⟨by have := HJ1.out; have := HK2.out; omega⟩, ⟨by (with_reducible repeat (first | refine blk_drewN ?_ _ | refine blk_drew ?_ | refine blk_alloc ?_ _)); exact BK489.out⟩, ⟨hU HB.out⟩⟩
        ·rw [if_neg c14] at H
         have c14b0 : (t491 == 0) = false := beq_eq_false_iff_ne.mpr c14
         have c14b1 : (t491 != 0) = true := bne_iff_ne.mpr c14
         obtain rfl := Option.some.inj H
         have hcz17_0 := blk_cell BK489.out
         have hfz17_0 := blk_frozen BK489.out
         have p490 : 0 ≤ (x3_2 : Int) := of_decide_eq_true (by first | (with_reducible assumption) | assumption)
         have q490 : x3_2 < (l0_1.length : Int) := of_decide_eq_true (by first | (with_reducible assumption) | assumption)
         obtain ⟨ad490, e490, hx490_0, hx490_1, hx490_2, hx490_3, hx490_4, hx490_5, hx490_6, hx490_7, hx490_8, hx490_9, hx490_10, hx490_11, hx490_12⟩ := at_T30 HR0_1.out x3_2 p490 q490
         cases e490
         replace hx490_0 := hbC HB hx490_0
         replace hx490_1 := hbC HB hx490_1
         replace hx490_2 := hbC HB hx490_2
         replace hx490_3 := hbC HB hx490_3
         replace hx490_4 := hbC HB hx490_4
         replace hx490_5 := hbC HB hx490_5
         replace hx490_6 := hbC HB hx490_6
         replace hx490_7 := hbC HB hx490_7
         replace hx490_8 := hbC HB hx490_8
         replace hx490_9 := hbC HB hx490_9
         replace hx490_10 := hbC HB hx490_10
         replace hx490_11 := hbC HB hx490_11
         replace hx490_12 := hbC HB hx490_12
         replace p490 := eq_true p490
         replace q490 := eq_true q490
         go_wp2_with (first | ((with_reducible refine gate_callee (f := 59) rfl ?_); refine goesL_ (some 31) rfl rfl Try.func59 (by kernel_rfl) rfl #[.agg #[.int .i64 ((rd_T30 l0_1 x3_2).f0.f0), .int .i64 ((rd_T30 l0_1 x3_2).f0.f1), .int .i64 ((rd_T30 l0_1 x3_2).f1), .int .i64 ((rd_T30 l0_1 x3_2).f2.f0), .int .i64 ((rd_T30 l0_1 x3_2).f2.f1), .bool ((rd_T30 l0_1 x3_2).f3), .int .i64 ((rd_T30 l0_1 x3_2).f4.f0), .int .i64 ((rd_T30 l0_1 x3_2).f4.f1), .int .i64 ((rd_T30 l0_1 x3_2).f4.f2), .int .i64 ((rd_T30 l0_1 x3_2).f4.f3), .int .i64 ((rd_T30 l0_1 x3_2).f4.f4), .int .i64 ((rd_T30 l0_1 x3_2).f4.f5), .int .i64 ((rd_T30 l0_1 x3_2).f4.f6)]] rfl (by (try simp only [List.map_toArray, List.map_cons, List.map_nil]); first | done | rfl | (simp only [List.length_drop, List.length_take]; rfl)) ?_; (with_reducible refine (dancestudioref56_Check.calls k2 ((rd_T30 l0_1 x3_2).f0.f0) ((rd_T30 l0_1 x3_2).f0.f1) ((rd_T30 l0_1 x3_2).f1) ((rd_T30 l0_1 x3_2).f2.f0) ((rd_T30 l0_1 x3_2).f2.f1) ((rd_T30 l0_1 x3_2).f3) ((rd_T30 l0_1 x3_2).f4.f0) ((rd_T30 l0_1 x3_2).f4.f1) ((rd_T30 l0_1 x3_2).f4.f2) ((rd_T30 l0_1 x3_2).f4.f3) ((rd_T30 l0_1 x3_2).f4.f4) ((rd_T30 l0_1 x3_2).f4.f5) ((rd_T30 l0_1 x3_2).f4.f6) t491 _ A13.out).mono ?_); rintro e w18 ⟨rfl, hb⟩; refine ⟨_, rfl, ?_⟩; replace BK489 := Aside0.mk (blk_below (bU BK489.out) hb); replace HB := Aside0.mk (below_step (hU HB.out) hb); (try clear hb); (try clear hb2); (try clear hk); (try clear hi)))
         go_ret
         exact ⟨by first | rfl | (simp [errW_none, errW_some] <;> rfl) | (simp [*, errW_none, errW_some] <;> rfl), hU HB.out⟩
       ·rw [if_neg c11] at H
        have c11b0 : decide (x3_2 < (l0_1.length : Int)) = false := decide_eq_false c11
        clear c11
        have H' := Aside0.mk H
        clear H
        have hcz19_0 := blk_cell BK489.out
        have hfz19_0 := blk_frozen BK489.out
        go_wp2
        go_loopg [5] k2 (fun kq v5 w' => ∃ (x5_3 : Int), v5 = .int .i64 x5_3 ∧ Aside0 (dancestudioref57_Check.l1 kq x5_3 a0_0 l0_1 = some r) ∧ Aside0 (kq ≤ k2) ∧ Aside0 (w'.heap[gb489]? = some (.cells #[.int .i64 a0_0, (.slice A0_1 l0_1.length c0_1)] 24 (0, 0))) ∧ Aside0 (Below w.heap.size w w'))
        case atStart => exact ⟨(1), (by first | rfl | (simp; done) | (simp [*]; done)), H', ⟨Nat.le_refl _⟩, ⟨by (with_reducible repeat (first | refine blk_drewN ?_ _ | refine blk_drew ?_ | refine blk_alloc ?_ _)); exact BK489.out⟩, ⟨hU HB.out⟩⟩
        case round =>
         clear H'
         try clear c1
         try clear p2
         try clear c3
         try clear c4
         try clear c4b0
         try clear p4
         try clear q4
         try clear hx4
         try clear c5
         try clear p6
         try clear c7
         try clear c8
         try clear c8b0
         try clear c8b1
         try clear c11
         try clear c11b0
         try clear c12
         try clear c12b0
         try clear c14
         try clear c14b0
         try clear c14b1
         try clear hcz10_0
         try clear hcz10_1
         try clear hcz15_0
         try clear hcz15_1
         try clear hcz17_0
         try clear hcz17_1
         try clear hcz19_0
         try clear hcz19_1
         try clear hcz5_0
         try clear hcz5_1
         try clear hcz6_0
         try clear hcz6_1
         try clear hcz9_0
         try clear hcz9_1
         try clear hfz10_0
         try clear hfz10_1
         try clear hfz15_0
         try clear hfz15_1
         try clear hfz17_0
         try clear hfz17_1
         try clear hfz19_0
         try clear hfz19_1
         try clear hfz5_0
         try clear hfz5_1
         try clear hfz6_0
         try clear hfz6_1
         try clear hfz9_0
         try clear hfz9_1
         try clear hx490_0
         try clear hx490_1
         try clear hx490_10
         try clear hx490_11
         try clear hx490_12
         try clear hx490_2
         try clear hx490_3
         try clear hx490_4
         try clear hx490_5
         try clear hx490_6
         try clear hx490_7
         try clear hx490_8
         try clear hx490_9
         try clear p2
         try clear p490
         try clear q490
         obtain ⟨x5_3, rfl, HA, HK3, BK489, HB⟩ := hrel
         cases gk with
         | zero => exact absurd HA.out (by simp [dancestudioref57_Check.l1])
         | succ k3 =>
          have H := HA.out
          clear HA
          simp only [dancestudioref57_Check.l1] at H
          by_cases c20 : x5_3 < (l0_1.length : Int)
          ·rw [if_pos c20] at H
           have c20b0 : decide (x5_3 < (l0_1.length : Int)) = true := decide_eq_true c20
           clear c20
           obtain ⟨ji21, hji21⟩ : ∃ j_ : Int, (wrap64 (x5_3 - 1)) = j_ := ⟨_, rfl⟩
           replace H : (if 0 ≤ (ji21) then (if (ji21) < (l0_1.length : Int) then (if 0 ≤ x5_3 then ((dancestudioref56_Less.f ((rd_T30 l0_1 (ji21)).f0.f0) ((rd_T30 l0_1 (ji21)).f0.f1) ((rd_T30 l0_1 x5_3).f0.f0) ((rd_T30 l0_1 x5_3).f0.f1)).bind fun t494 => (if t494 = true then (dancestudioref57_Check.l1 k3 (wrap64 (x5_3 + 1)) a0_0 l0_1) else (some 5))) else (none)) else (none)) else (none)) = some r := by first | (rw [hji21] at H; exact H) | (simp only [hji21] at H ⊢; exact H)
           have hji21w : (IntKind.i64.wrap (x5_3 - 1)) = ji21 := (i64_w _).trans hji21
           by_cases c22 : 0 ≤ (ji21)
           rotate_left
           ·rw [if_neg c22] at H
            exact absurd H (by simp)
           rw [if_pos c22] at H
           have c22b0 : decide (0 ≤ (ji21)) = true := decide_eq_true c22
           clear c22
           by_cases c23 : (ji21) < (l0_1.length : Int)
           rotate_left
           ·rw [if_neg c23] at H
            exact absurd H (by simp)
           rw [if_pos c23] at H
           have c23b0 : decide ((ji21) < (l0_1.length : Int)) = true := decide_eq_true c23
           clear c23
           by_cases c24 : 0 ≤ x5_3
           rotate_left
           ·rw [if_neg c24] at H
            exact absurd H (by simp)
           rw [if_pos c24] at H
           have c24b0 : decide (0 ≤ x5_3) = true := decide_eq_true c24
           clear c24
           replace H := Option.bind_eq_some_iff.mp H
           obtain ⟨t494, A250, H⟩ := H
           replace H : (if t494 = true then (dancestudioref57_Check.l1 k3 (wrap64 (x5_3 + 1)) a0_0 l0_1) else (some 5)) = some r := H
           have A25 := Aside0.mk A250
           clear A250
           by_cases c26 : t494 = true
           ·subst c26
            have H1 : (dancestudioref57_Check.l1 k3 (wrap64 (x5_3 + 1)) a0_0 l0_1) = some r := by rw [if_pos rfl] at H; exact H
            clear H
            have H := H1
            clear H1
            have H' := Aside0.mk H
            clear H
            have hcz27_0 := blk_cell BK489.out
            have hfz27_0 := blk_frozen BK489.out
            try go_wp2
            replace BK489 := Aside0.mk (blk_drew BK489.out)
            replace HB := Aside0.mk (below_drew1 HB.out)
            have p492 : 0 ≤ ((ji21) : Int) := of_decide_eq_true (by first | (with_reducible assumption) | assumption)
            have q492 : (ji21) < (l0_1.length : Int) := of_decide_eq_true (by first | (with_reducible assumption) | assumption)
            obtain ⟨ad492, e492, hx492_0, hx492_1, hx492_2, hx492_3, hx492_4, hx492_5, hx492_6, hx492_7, hx492_8, hx492_9, hx492_10, hx492_11, hx492_12⟩ := at_T30 HR0_1.out (ji21) p492 q492
            have hw492_12 := hx492_12
            have hw492_11 := hx492_11
            have hw492_10 := hx492_10
            have hw492_9 := hx492_9
            have hw492_8 := hx492_8
            have hw492_7 := hx492_7
            have hw492_6 := hx492_6
            have hw492_5 := hx492_5
            have hw492_4 := hx492_4
            have hw492_3 := hx492_3
            have hw492_2 := hx492_2
            have hw492_1 := hx492_1
            have hw492_0 := hx492_0
            cases e492
            replace hx492_0 := hbC HB hx492_0
            replace hx492_1 := hbC HB hx492_1
            replace hx492_2 := hbC HB hx492_2
            replace hx492_3 := hbC HB hx492_3
            replace hx492_4 := hbC HB hx492_4
            replace hx492_5 := hbC HB hx492_5
            replace hx492_6 := hbC HB hx492_6
            replace hx492_7 := hbC HB hx492_7
            replace hx492_8 := hbC HB hx492_8
            replace hx492_9 := hbC HB hx492_9
            replace hx492_10 := hbC HB hx492_10
            replace hx492_11 := hbC HB hx492_11
            replace hx492_12 := hbC HB hx492_12
            replace p492 := eq_true p492
            replace q492 := eq_true q492
            have p493 : 0 ≤ (x5_3 : Int) := of_decide_eq_true (by first | (with_reducible assumption) | assumption)
            have q493 : x5_3 < (l0_1.length : Int) := of_decide_eq_true (by first | (with_reducible assumption) | assumption)
            obtain ⟨ad493, e493, hx493_0, hx493_1, hx493_2, hx493_3, hx493_4, hx493_5, hx493_6, hx493_7, hx493_8, hx493_9, hx493_10, hx493_11, hx493_12⟩ := at_T30 HR0_1.out x5_3 p493 q493
            have hw493_12 := hx493_12
            have hw493_11 := hx493_11
            have hw493_10 := hx493_10
            have hw493_9 := hx493_9
            have hw493_8 := hx493_8
            have hw493_7 := hx493_7
            have hw493_6 := hx493_6
            have hw493_5 := hx493_5
            have hw493_4 := hx493_4
            have hw493_3 := hx493_3
            have hw493_2 := hx493_2
            have hw493_1 := hx493_1
            have hw493_0 := hx493_0
            obtain rfl : ad492 = ad493 := (by injection e493)
            replace hx493_0 := hbC HB hx493_0
            replace hx493_1 := hbC HB hx493_1
            replace hx493_2 := hbC HB hx493_2
            replace hx493_3 := hbC HB hx493_3
            replace hx493_4 := hbC HB hx493_4
            replace hx493_5 := hbC HB hx493_5
            replace hx493_6 := hbC HB hx493_6
            replace hx493_7 := hbC HB hx493_7
            replace hx493_8 := hbC HB hx493_8
            replace hx493_9 := hbC HB hx493_9
            replace hx493_10 := hbC HB hx493_10
            replace hx493_11 := hbC HB hx493_11
            replace hx493_12 := hbC HB hx493_12
            replace p493 := eq_true p493
            replace q493 := eq_true q493
            refine start_ (n := 15) (S := fun w' => w'.cell? ⟨gb489, 0, none⟩ = some (.int .i64 a0_0) ∧ w'.cell? ⟨gb489, 1, none⟩ = some (.slice (some ad492) l0_1.length c0_1) ∧ w'.cell? (ad492.add (((ji21)).toNat * 13)) = some (.int .i64 ((rd_T30 l0_1 (ji21)).f0.f0)) ∧ w'.cell? ⟨(ad492.add (((ji21)).toNat * 13)).block, (ad492.add (((ji21)).toNat * 13)).off + 1, none⟩ = some (.int .i64 ((rd_T30 l0_1 (ji21)).f0.f1)) ∧ w'.cell? ⟨(ad492.add (((ji21)).toNat * 13)).block, (ad492.add (((ji21)).toNat * 13)).off + 2, none⟩ = some (.int .i64 ((rd_T30 l0_1 (ji21)).f1)) ∧ w'.cell? ⟨(ad492.add (((ji21)).toNat * 13)).block, (ad492.add (((ji21)).toNat * 13)).off + 3, none⟩ = some (.int .i64 ((rd_T30 l0_1 (ji21)).f2.f0)) ∧ w'.cell? ⟨(ad492.add (((ji21)).toNat * 13)).block, (ad492.add (((ji21)).toNat * 13)).off + 4, none⟩ = some (.int .i64 ((rd_T30 l0_1 (ji21)).f2.f1)) ∧ w'.cell? ⟨(ad492.add (((ji21)).toNat * 13)).block, (ad492.add (((ji21)).toNat * 13)).off + 5, none⟩ = some (.bool ((rd_T30 l0_1 (ji21)).f3)) ∧ w'.cell? ⟨(ad492.add (((ji21)).toNat * 13)).block, (ad492.add (((ji21)).toNat * 13)).off + 6, none⟩ = some (.int .i64 ((rd_T30 l0_1 (ji21)).f4.f0)) ∧ w'.cell? ⟨(ad492.add (((ji21)).toNat * 13)).block, (ad492.add (((ji21)).toNat * 13)).off + 7, none⟩ = some (.int .i64 ((rd_T30 l0_1 (ji21)).f4.f1)) ∧ w'.cell? ⟨(ad492.add (((ji21)).toNat * 13)).block, (ad492.add (((ji21)).toNat * 13)).off + 8, none⟩ = some (.int .i64 ((rd_T30 l0_1 (ji21)).f4.f2)) ∧ w'.cell? ⟨(ad492.add (((ji21)).toNat * 13)).block, (ad492.add (((ji21)).toNat * 13)).off + 9, none⟩ = some (.int .i64 ((rd_T30 l0_1 (ji21)).f4.f3)) ∧ w'.cell? ⟨(ad492.add (((ji21)).toNat * 13)).block, (ad492.add (((ji21)).toNat * 13)).off + 10, none⟩ = some (.int .i64 ((rd_T30 l0_1 (ji21)).f4.f4)) ∧ w'.cell? ⟨(ad492.add (((ji21)).toNat * 13)).block, (ad492.add (((ji21)).toNat * 13)).off + 11, none⟩ = some (.int .i64 ((rd_T30 l0_1 (ji21)).f4.f5)) ∧ w'.cell? ⟨(ad492.add (((ji21)).toNat * 13)).block, (ad492.add (((ji21)).toNat * 13)).off + 12, none⟩ = some (.int .i64 ((rd_T30 l0_1 (ji21)).f4.f6)) ∧ w'.cell? (ad492.add ((x5_3).toNat * 13)) = some (.int .i64 ((rd_T30 l0_1 x5_3).f0.f0)) ∧ w'.cell? ⟨(ad492.add ((x5_3).toNat * 13)).block, (ad492.add ((x5_3).toNat * 13)).off + 1, none⟩ = some (.int .i64 ((rd_T30 l0_1 x5_3).f0.f1)) ∧ w'.cell? ⟨(ad492.add ((x5_3).toNat * 13)).block, (ad492.add ((x5_3).toNat * 13)).off + 2, none⟩ = some (.int .i64 ((rd_T30 l0_1 x5_3).f1)) ∧ w'.cell? ⟨(ad492.add ((x5_3).toNat * 13)).block, (ad492.add ((x5_3).toNat * 13)).off + 3, none⟩ = some (.int .i64 ((rd_T30 l0_1 x5_3).f2.f0)) ∧ w'.cell? ⟨(ad492.add ((x5_3).toNat * 13)).block, (ad492.add ((x5_3).toNat * 13)).off + 4, none⟩ = some (.int .i64 ((rd_T30 l0_1 x5_3).f2.f1)) ∧ w'.cell? ⟨(ad492.add ((x5_3).toNat * 13)).block, (ad492.add ((x5_3).toNat * 13)).off + 5, none⟩ = some (.bool ((rd_T30 l0_1 x5_3).f3)) ∧ w'.cell? ⟨(ad492.add ((x5_3).toNat * 13)).block, (ad492.add ((x5_3).toNat * 13)).off + 6, none⟩ = some (.int .i64 ((rd_T30 l0_1 x5_3).f4.f0)) ∧ w'.cell? ⟨(ad492.add ((x5_3).toNat * 13)).block, (ad492.add ((x5_3).toNat * 13)).off + 7, none⟩ = some (.int .i64 ((rd_T30 l0_1 x5_3).f4.f1)) ∧ w'.cell? ⟨(ad492.add ((x5_3).toNat * 13)).block, (ad492.add ((x5_3).toNat * 13)).off + 8, none⟩ = some (.int .i64 ((rd_T30 l0_1 x5_3).f4.f2)) ∧ w'.cell? ⟨(ad492.add ((x5_3).toNat * 13)).block, (ad492.add ((x5_3).toNat * 13)).off + 9, none⟩ = some (.int .i64 ((rd_T30 l0_1 x5_3).f4.f3)) ∧ w'.cell? ⟨(ad492.add ((x5_3).toNat * 13)).block, (ad492.add ((x5_3).toNat * 13)).off + 10, none⟩ = some (.int .i64 ((rd_T30 l0_1 x5_3).f4.f4)) ∧ w'.cell? ⟨(ad492.add ((x5_3).toNat * 13)).block, (ad492.add ((x5_3).toNat * 13)).off + 11, none⟩ = some (.int .i64 ((rd_T30 l0_1 x5_3).f4.f5)) ∧ w'.cell? ⟨(ad492.add ((x5_3).toNat * 13)).block, (ad492.add ((x5_3).toNat * 13)).off + 12, none⟩ = some (.int .i64 ((rd_T30 l0_1 x5_3).f4.f6))) (ds := []) #[false, false, false, false, false, false, false, false, false, false, false, false, false, false, false] (by kernel_rfl) rfl rfl ⟨(blk_cell BK489.out 0).trans rfl, (blk_cell BK489.out 1).trans rfl, (hbC HB hw492_0), (hbC HB hw492_1), (hbC HB hw492_2), (hbC HB hw492_3), (hbC HB hw492_4), (hbC HB hw492_5), (hbC HB hw492_6), (hbC HB hw492_7), (hbC HB hw492_8), (hbC HB hw492_9), (hbC HB hw492_10), (hbC HB hw492_11), (hbC HB hw492_12), (hbC HB hw493_0), (hbC HB hw493_1), (hbC HB hw493_2), (hbC HB hw493_3), (hbC HB hw493_4), (hbC HB hw493_5), (hbC HB hw493_6), (hbC HB hw493_7), (hbC HB hw493_8), (hbC HB hw493_9), (hbC HB hw493_10), (hbC HB hw493_11), (hbC HB hw493_12)⟩ (fun hHeld => ?_); refine with_tabW dancestudioref57_Check.tab14 dancestudioref57_Check.bits14 (fun HT_ HW_ => ?_)
            generalize wr.drew = w28 at BK489 HB hx492_0 hx492_1 hx492_10 hx492_11 hx492_12 hx492_2 hx492_3 hx492_4 hx492_5 hx492_6 hx492_7 hx492_8 hx492_9 hx493_0 hx493_1 hx493_10 hx493_11 hx493_12 hx493_2 hx493_3 hx493_4 hx493_5 hx493_6 hx493_7 hx493_8 hx493_9 hHeld ⊢
            refine puA 0 42 (bs 15 1) ?_
            refine puA 2 44 (bs 15 5) ?_
            refine puA 3 45 (bs 15 13) ?_
            refine puA 7 49 (bs 15 141) ?_
            refine puA 9 51 (bs 15 653) ?_
            refine tkA 1 43 (bs 15 655) hHeld ?_
            refine puA 4 46 (bs 15 671) ?_
            refine puA 5 47 (bs 15 703) ?_
            refine tkA 6 48 (bs 15 767) hHeld ?_
            refine tkA 8 50 (bs 15 1023) hHeld ?_
            refine puA 10 52 (bs 15 2047) ?_
            refine puA 11 53 (bs 15 4095) ?_
            refine tkA 12 54 (bs 15 8191) hHeld ?_
            refine one_ (i := 13) (N := some 55) (bs 15 16383) rfl rfl (one_of HT_.out (by kernel_rfl)) (by decide) (fun K hK => ?_)
            refine goes_ Try.func79 (by kernel_rfl) rfl #[.agg #[.int .i64 ((rd_T30 l0_1 (ji21)).f0.f0), .int .i64 ((rd_T30 l0_1 (ji21)).f0.f1)], .agg #[.int .i64 ((rd_T30 l0_1 x5_3).f0.f0), .int .i64 ((rd_T30 l0_1 x5_3).f0.f1)]] (by rfl) rfl rfl (by (try simp only [List.map_toArray, List.map_cons, List.map_nil]); first | done | (simp only [hji21]; rfl) | rfl | (simp only [List.length_drop, List.length_take]; rfl)) ?_
            with_reducible refine (dancestudioref56_Less.calls ((rd_T30 l0_1 (ji21)).f0.f0) ((rd_T30 l0_1 (ji21)).f0.f1) ((rd_T30 l0_1 x5_3).f0.f0) ((rd_T30 l0_1 x5_3).f0.f1) true _ A25.out).mono ?_
            rintro e w29 ⟨rfl, hb⟩
            refine ⟨_, rfl, ?_⟩
            replace BK489 := Aside0.mk (blk_below (bU BK489.out) hb)
            replace HB := Aside0.mk (below_step (hU HB.out) hb)
            (try clear hb)
            (try clear hb2)
            (try clear hk)
            (try clear hi)
            refine hK.out _ _ ⟨(blk_cell BK489.out 0).trans rfl, (blk_cell BK489.out 1).trans rfl, (hbC HB hw492_0), (hbC HB hw492_1), (hbC HB hw492_2), (hbC HB hw492_3), (hbC HB hw492_4), (hbC HB hw492_5), (hbC HB hw492_6), (hbC HB hw492_7), (hbC HB hw492_8), (hbC HB hw492_9), (hbC HB hw492_10), (hbC HB hw492_11), (hbC HB hw492_12), (hbC HB hw493_0), (hbC HB hw493_1), (hbC HB hw493_2), (hbC HB hw493_3), (hbC HB hw493_4), (hbC HB hw493_5), (hbC HB hw493_6), (hbC HB hw493_7), (hbC HB hw493_8), (hbC HB hw493_9), (hbC HB hw493_10), (hbC HB hw493_11), (hbC HB hw493_12)⟩ (fun hHeld => ?_)
            clear hK K
            refine nmA 55 ?_
            refine puA 14 56 (bs 15 32767) ?_
            refine done_ (done_of HT_.out (by kernel_rfl)) ?_
            try go_wp2
            go_roundg k3
            case measure => have := HJ1.out; have := HK2.out; have := HK3.out; omega
            case rel => exact ⟨(wrap64 (x5_3 + 1)), (by first | rfl | (simp; done) | (simp [*]; done)), H', ⟨by have := HJ1.out; have := HK2.out; have := HK3.out; omega⟩, ⟨by (with_reducible repeat (first | refine blk_drewN ?_ _ | refine blk_drew ?_ | refine blk_alloc ?_ _)); exact BK489.out⟩, ⟨hU HB.out⟩⟩
           ·replace c26 := Bool.eq_false_iff.mpr c26
            subst c26
            have H1 : (some 5) = some r := by rw [if_neg (show ¬ (false = true) by decide)] at H; exact H
            clear H
            have H := H1
            clear H1
            obtain rfl := Option.some.inj H
            have hcz30_0 := blk_cell BK489.out
            have hfz30_0 := blk_frozen BK489.out
            try go_wp2
            replace BK489 := Aside0.mk (blk_drew BK489.out)
            replace HB := Aside0.mk (below_drew1 HB.out)
            have p492 : 0 ≤ ((ji21) : Int) := of_decide_eq_true (by first | (with_reducible assumption) | assumption)
            have q492 : (ji21) < (l0_1.length : Int) := of_decide_eq_true (by first | (with_reducible assumption) | assumption)
            obtain ⟨ad492, e492, hx492_0, hx492_1, hx492_2, hx492_3, hx492_4, hx492_5, hx492_6, hx492_7, hx492_8, hx492_9, hx492_10, hx492_11, hx492_12⟩ := at_T30 HR0_1.out (ji21) p492 q492
            have hw492_12 := hx492_12
            have hw492_11 := hx492_11
            have hw492_10 := hx492_10
            have hw492_9 := hx492_9
            have hw492_8 := hx492_8
            have hw492_7 := hx492_7
            have hw492_6 := hx492_6
            have hw492_5 := hx492_5
            have hw492_4 := hx492_4
            have hw492_3 := hx492_3
            have hw492_2 := hx492_2
            have hw492_1 := hx492_1
            have hw492_0 := hx492_0
            cases e492
            replace hx492_0 := hbC HB hx492_0
            replace hx492_1 := hbC HB hx492_1
            replace hx492_2 := hbC HB hx492_2
            replace hx492_3 := hbC HB hx492_3
            replace hx492_4 := hbC HB hx492_4
            replace hx492_5 := hbC HB hx492_5
            replace hx492_6 := hbC HB hx492_6
            replace hx492_7 := hbC HB hx492_7
            replace hx492_8 := hbC HB hx492_8
            replace hx492_9 := hbC HB hx492_9
            replace hx492_10 := hbC HB hx492_10
            replace hx492_11 := hbC HB hx492_11
            replace hx492_12 := hbC HB hx492_12
            replace p492 := eq_true p492
            replace q492 := eq_true q492
            have p493 : 0 ≤ (x5_3 : Int) := of_decide_eq_true (by first | (with_reducible assumption) | assumption)
            have q493 : x5_3 < (l0_1.length : Int) := of_decide_eq_true (by first | (with_reducible assumption) | assumption)
            obtain ⟨ad493, e493, hx493_0, hx493_1, hx493_2, hx493_3, hx493_4, hx493_5, hx493_6, hx493_7, hx493_8, hx493_9, hx493_10, hx493_11, hx493_12⟩ := at_T30 HR0_1.out x5_3 p493 q493
            have hw493_12 := hx493_12
            have hw493_11 := hx493_11
            have hw493_10 := hx493_10
            have hw493_9 := hx493_9
            have hw493_8 := hx493_8
            have hw493_7 := hx493_7
            have hw493_6 := hx493_6
            have hw493_5 := hx493_5
            have hw493_4 := hx493_4
            have hw493_3 := hx493_3
            have hw493_2 := hx493_2
            have hw493_1 := hx493_1
            have hw493_0 := hx493_0
            obtain rfl : ad492 = ad493 := (by injection e493)
            replace hx493_0 := hbC HB hx493_0
            replace hx493_1 := hbC HB hx493_1
            replace hx493_2 := hbC HB hx493_2
            replace hx493_3 := hbC HB hx493_3
            replace hx493_4 := hbC HB hx493_4
            replace hx493_5 := hbC HB hx493_5
            replace hx493_6 := hbC HB hx493_6
            replace hx493_7 := hbC HB hx493_7
            replace hx493_8 := hbC HB hx493_8
            replace hx493_9 := hbC HB hx493_9
            replace hx493_10 := hbC HB hx493_10
            replace hx493_11 := hbC HB hx493_11
            replace hx493_12 := hbC HB hx493_12
            replace p493 := eq_true p493
            replace q493 := eq_true q493
            refine start_ (n := 15) (S := fun w' => w'.cell? ⟨gb489, 0, none⟩ = some (.int .i64 a0_0) ∧ w'.cell? ⟨gb489, 1, none⟩ = some (.slice (some ad492) l0_1.length c0_1) ∧ w'.cell? (ad492.add (((ji21)).toNat * 13)) = some (.int .i64 ((rd_T30 l0_1 (ji21)).f0.f0)) ∧ w'.cell? ⟨(ad492.add (((ji21)).toNat * 13)).block, (ad492.add (((ji21)).toNat * 13)).off + 1, none⟩ = some (.int .i64 ((rd_T30 l0_1 (ji21)).f0.f1)) ∧ w'.cell? ⟨(ad492.add (((ji21)).toNat * 13)).block, (ad492.add (((ji21)).toNat * 13)).off + 2, none⟩ = some (.int .i64 ((rd_T30 l0_1 (ji21)).f1)) ∧ w'.cell? ⟨(ad492.add (((ji21)).toNat * 13)).block, (ad492.add (((ji21)).toNat * 13)).off + 3, none⟩ = some (.int .i64 ((rd_T30 l0_1 (ji21)).f2.f0)) ∧ w'.cell? ⟨(ad492.add (((ji21)).toNat * 13)).block, (ad492.add (((ji21)).toNat * 13)).off + 4, none⟩ = some (.int .i64 ((rd_T30 l0_1 (ji21)).f2.f1)) ∧ w'.cell? ⟨(ad492.add (((ji21)).toNat * 13)).block, (ad492.add (((ji21)).toNat * 13)).off + 5, none⟩ = some (.bool ((rd_T30 l0_1 (ji21)).f3)) ∧ w'.cell? ⟨(ad492.add (((ji21)).toNat * 13)).block, (ad492.add (((ji21)).toNat * 13)).off + 6, none⟩ = some (.int .i64 ((rd_T30 l0_1 (ji21)).f4.f0)) ∧ w'.cell? ⟨(ad492.add (((ji21)).toNat * 13)).block, (ad492.add (((ji21)).toNat * 13)).off + 7, none⟩ = some (.int .i64 ((rd_T30 l0_1 (ji21)).f4.f1)) ∧ w'.cell? ⟨(ad492.add (((ji21)).toNat * 13)).block, (ad492.add (((ji21)).toNat * 13)).off + 8, none⟩ = some (.int .i64 ((rd_T30 l0_1 (ji21)).f4.f2)) ∧ w'.cell? ⟨(ad492.add (((ji21)).toNat * 13)).block, (ad492.add (((ji21)).toNat * 13)).off + 9, none⟩ = some (.int .i64 ((rd_T30 l0_1 (ji21)).f4.f3)) ∧ w'.cell? ⟨(ad492.add (((ji21)).toNat * 13)).block, (ad492.add (((ji21)).toNat * 13)).off + 10, none⟩ = some (.int .i64 ((rd_T30 l0_1 (ji21)).f4.f4)) ∧ w'.cell? ⟨(ad492.add (((ji21)).toNat * 13)).block, (ad492.add (((ji21)).toNat * 13)).off + 11, none⟩ = some (.int .i64 ((rd_T30 l0_1 (ji21)).f4.f5)) ∧ w'.cell? ⟨(ad492.add (((ji21)).toNat * 13)).block, (ad492.add (((ji21)).toNat * 13)).off + 12, none⟩ = some (.int .i64 ((rd_T30 l0_1 (ji21)).f4.f6)) ∧ w'.cell? (ad492.add ((x5_3).toNat * 13)) = some (.int .i64 ((rd_T30 l0_1 x5_3).f0.f0)) ∧ w'.cell? ⟨(ad492.add ((x5_3).toNat * 13)).block, (ad492.add ((x5_3).toNat * 13)).off + 1, none⟩ = some (.int .i64 ((rd_T30 l0_1 x5_3).f0.f1)) ∧ w'.cell? ⟨(ad492.add ((x5_3).toNat * 13)).block, (ad492.add ((x5_3).toNat * 13)).off + 2, none⟩ = some (.int .i64 ((rd_T30 l0_1 x5_3).f1)) ∧ w'.cell? ⟨(ad492.add ((x5_3).toNat * 13)).block, (ad492.add ((x5_3).toNat * 13)).off + 3, none⟩ = some (.int .i64 ((rd_T30 l0_1 x5_3).f2.f0)) ∧ w'.cell? ⟨(ad492.add ((x5_3).toNat * 13)).block, (ad492.add ((x5_3).toNat * 13)).off + 4, none⟩ = some (.int .i64 ((rd_T30 l0_1 x5_3).f2.f1)) ∧ w'.cell? ⟨(ad492.add ((x5_3).toNat * 13)).block, (ad492.add ((x5_3).toNat * 13)).off + 5, none⟩ = some (.bool ((rd_T30 l0_1 x5_3).f3)) ∧ w'.cell? ⟨(ad492.add ((x5_3).toNat * 13)).block, (ad492.add ((x5_3).toNat * 13)).off + 6, none⟩ = some (.int .i64 ((rd_T30 l0_1 x5_3).f4.f0)) ∧ w'.cell? ⟨(ad492.add ((x5_3).toNat * 13)).block, (ad492.add ((x5_3).toNat * 13)).off + 7, none⟩ = some (.int .i64 ((rd_T30 l0_1 x5_3).f4.f1)) ∧ w'.cell? ⟨(ad492.add ((x5_3).toNat * 13)).block, (ad492.add ((x5_3).toNat * 13)).off + 8, none⟩ = some (.int .i64 ((rd_T30 l0_1 x5_3).f4.f2)) ∧ w'.cell? ⟨(ad492.add ((x5_3).toNat * 13)).block, (ad492.add ((x5_3).toNat * 13)).off + 9, none⟩ = some (.int .i64 ((rd_T30 l0_1 x5_3).f4.f3)) ∧ w'.cell? ⟨(ad492.add ((x5_3).toNat * 13)).block, (ad492.add ((x5_3).toNat * 13)).off + 10, none⟩ = some (.int .i64 ((rd_T30 l0_1 x5_3).f4.f4)) ∧ w'.cell? ⟨(ad492.add ((x5_3).toNat * 13)).block, (ad492.add ((x5_3).toNat * 13)).off + 11, none⟩ = some (.int .i64 ((rd_T30 l0_1 x5_3).f4.f5)) ∧ w'.cell? ⟨(ad492.add ((x5_3).toNat * 13)).block, (ad492.add ((x5_3).toNat * 13)).off + 12, none⟩ = some (.int .i64 ((rd_T30 l0_1 x5_3).f4.f6))) (ds := []) #[false, false, false, false, false, false, false, false, false, false, false, false, false, false, false] (by kernel_rfl) rfl rfl ⟨(blk_cell BK489.out 0).trans rfl, (blk_cell BK489.out 1).trans rfl, (hbC HB hw492_0), (hbC HB hw492_1), (hbC HB hw492_2), (hbC HB hw492_3), (hbC HB hw492_4), (hbC HB hw492_5), (hbC HB hw492_6), (hbC HB hw492_7), (hbC HB hw492_8), (hbC HB hw492_9), (hbC HB hw492_10), (hbC HB hw492_11), (hbC HB hw492_12), (hbC HB hw493_0), (hbC HB hw493_1), (hbC HB hw493_2), (hbC HB hw493_3), (hbC HB hw493_4), (hbC HB hw493_5), (hbC HB hw493_6), (hbC HB hw493_7), (hbC HB hw493_8), (hbC HB hw493_9), (hbC HB hw493_10), (hbC HB hw493_11), (hbC HB hw493_12)⟩ (fun hHeld => ?_); refine with_tabW dancestudioref57_Check.tab14 dancestudioref57_Check.bits14 (fun HT_ HW_ => ?_)
            generalize wr.drew = w31 at BK489 HB hx492_0 hx492_1 hx492_10 hx492_11 hx492_12 hx492_2 hx492_3 hx492_4 hx492_5 hx492_6 hx492_7 hx492_8 hx492_9 hx493_0 hx493_1 hx493_10 hx493_11 hx493_12 hx493_2 hx493_3 hx493_4 hx493_5 hx493_6 hx493_7 hx493_8 hx493_9 hHeld ⊢
            refine puA 0 42 (bs 15 1) ?_
            refine puA 2 44 (bs 15 5) ?_
            refine puA 3 45 (bs 15 13) ?_
            refine puA 7 49 (bs 15 141) ?_
            refine puA 9 51 (bs 15 653) ?_
            refine tkA 1 43 (bs 15 655) hHeld ?_
            refine puA 4 46 (bs 15 671) ?_
            refine puA 5 47 (bs 15 703) ?_
            refine tkA 6 48 (bs 15 767) hHeld ?_
            refine tkA 8 50 (bs 15 1023) hHeld ?_
            refine puA 10 52 (bs 15 2047) ?_
            refine puA 11 53 (bs 15 4095) ?_
            refine tkA 12 54 (bs 15 8191) hHeld ?_
            refine one_ (i := 13) (N := some 55) (bs 15 16383) rfl rfl (one_of HT_.out (by kernel_rfl)) (by decide) (fun K hK => ?_)
            refine goes_ Try.func79 (by kernel_rfl) rfl #[.agg #[.int .i64 ((rd_T30 l0_1 (ji21)).f0.f0), .int .i64 ((rd_T30 l0_1 (ji21)).f0.f1)], .agg #[.int .i64 ((rd_T30 l0_1 x5_3).f0.f0), .int .i64 ((rd_T30 l0_1 x5_3).f0.f1)]] (by rfl) rfl rfl (by (try simp only [List.map_toArray, List.map_cons, List.map_nil]); first | done | (simp only [hji21]; rfl) | rfl | (simp only [List.length_drop, List.length_take]; rfl)) ?_
            with_reducible refine (dancestudioref56_Less.calls ((rd_T30 l0_1 (ji21)).f0.f0) ((rd_T30 l0_1 (ji21)).f0.f1) ((rd_T30 l0_1 x5_3).f0.f0) ((rd_T30 l0_1 x5_3).f0.f1) false _ A25.out).mono ?_
            rintro e w32 ⟨rfl, hb⟩
            refine ⟨_, rfl, ?_⟩
            replace BK489 := Aside0.mk (blk_below (bU BK489.out) hb)
            replace HB := Aside0.mk (below_step (hU HB.out) hb)
            (try clear hb)
            (try clear hb2)
            (try clear hk)
            (try clear hi)
            refine hK.out _ _ ⟨(blk_cell BK489.out 0).trans rfl, (blk_cell BK489.out 1).trans rfl, (hbC HB hw492_0), (hbC HB hw492_1), (hbC HB hw492_2), (hbC HB hw492_3), (hbC HB hw492_4), (hbC HB hw492_5), (hbC HB hw492_6), (hbC HB hw492_7), (hbC HB hw492_8), (hbC HB hw492_9), (hbC HB hw492_10), (hbC HB hw492_11), (hbC HB hw492_12), (hbC HB hw493_0), (hbC HB hw493_1), (hbC HB hw493_2), (hbC HB hw493_3), (hbC HB hw493_4), (hbC HB hw493_5), (hbC HB hw493_6), (hbC HB hw493_7), (hbC HB hw493_8), (hbC HB hw493_9), (hbC HB hw493_10), (hbC HB hw493_11), (hbC HB hw493_12)⟩ (fun hHeld => ?_)
            clear hK K
            refine nmA 55 ?_
            refine puA 14 56 (bs 15 32767) ?_
            refine done_ (done_of HT_.out (by kernel_rfl)) ?_
            try go_wp2
            go_ret
            exact ⟨by first | rfl | (simp [errW_none, errW_some] <;> rfl) | (simp only [← hji21]; first | rfl | (simp [errW_none, errW_some] <;> rfl)) | (simp [*, errW_none, errW_some] <;> rfl), hU HB.out⟩
          ·rw [if_neg c20] at H
           have c20b0 : decide (x5_3 < (l0_1.length : Int)) = false := decide_eq_false c20
           clear c20
           have H' := Aside0.mk H
           clear H
           have hcz33_0 := blk_cell BK489.out
           have hfz33_0 := blk_frozen BK489.out
           go_wp2
           go_loopg [6] k3 (fun kq v6 w' => ∃ (x6_4 : Int), v6 = .int .i64 x6_4 ∧ Aside0 (dancestudioref57_Check.l2 kq x6_4 a0_0 l0_1 = some r) ∧ Aside0 (kq ≤ k3) ∧ Aside0 (w'.heap[gb489]? = some (.cells #[.int .i64 a0_0, (.slice A0_1 l0_1.length c0_1)] 24 (0, 0))) ∧ Aside0 (Below w.heap.size w w'))
           case atStart => exact ⟨(0), (by first | rfl | (simp; done) | (simp [*]; done)), H', ⟨Nat.le_refl _⟩, ⟨by (with_reducible repeat (first | refine blk_drewN ?_ _ | refine blk_drew ?_ | refine blk_alloc ?_ _)); exact BK489.out⟩, ⟨hU HB.out⟩⟩
           case round =>
            clear H'
            try clear c1
            try clear c2
            try clear p2
            try clear c3
            try clear c4
            try clear c4b0
            try clear p4
            try clear q4
            try clear hx4
            try clear c5
            try clear p6
            try clear c7
            try clear c8
            try clear c8b0
            try clear c8b1
            try clear c11
            try clear c11b0
            try clear c12
            try clear c12b0
            try clear c14
            try clear c14b0
            try clear c14b1
            try clear c20
            try clear c20b0
            try clear c22
            try clear c22b0
            try clear c23
            try clear c23b0
            try clear c24
            try clear c24b0
            try clear c26
            try clear hcz10_0
            try clear hcz10_1
            try clear hcz15_0
            try clear hcz15_1
            try clear hcz17_0
            try clear hcz17_1
            try clear hcz19_0
            try clear hcz19_1
            try clear hcz27_0
            try clear hcz27_1
            try clear hcz30_0
            try clear hcz30_1
            try clear hcz33_0
            try clear hcz33_1
            try clear hcz5_0
            try clear hcz5_1
            try clear hcz6_0
            try clear hcz6_1
            try clear hcz9_0
            try clear hcz9_1
            try clear hfz10_0
            try clear hfz10_1
            try clear hfz15_0
            try clear hfz15_1
            try clear hfz17_0
            try clear hfz17_1
            try clear hfz19_0
            try clear hfz19_1
            try clear hfz27_0
            try clear hfz27_1
            try clear hfz30_0
            try clear hfz30_1
            try clear hfz33_0
            try clear hfz33_1
            try clear hfz5_0
            try clear hfz5_1
            try clear hfz6_0
            try clear hfz6_1
            try clear hfz9_0
            try clear hfz9_1
            try clear hx490_0
            try clear hx490_1
            try clear hx490_10
            try clear hx490_11
            try clear hx490_12
            try clear hx490_2
            try clear hx490_3
            try clear hx490_4
            try clear hx490_5
            try clear hx490_6
            try clear hx490_7
            try clear hx490_8
            try clear hx490_9
            try clear hx492_0
            try clear hx492_1
            try clear hx492_10
            try clear hx492_11
            try clear hx492_12
            try clear hx492_2
            try clear hx492_3
            try clear hx492_4
            try clear hx492_5
            try clear hx492_6
            try clear hx492_7
            try clear hx492_8
            try clear hx492_9
            try clear hx493_0
            try clear hx493_1
            try clear hx493_10
            try clear hx493_11
            try clear hx493_12
            try clear hx493_2
            try clear hx493_3
            try clear hx493_4
            try clear hx493_5
            try clear hx493_6
            try clear hx493_7
            try clear hx493_8
            try clear hx493_9
            try clear p2
            try clear p4
            try clear p490
            try clear p492
            try clear p493
            try clear p6
            try clear q4
            try clear q490
            try clear q492
            try clear q493
            obtain ⟨x6_4, rfl, HA, HK4, BK489, HB⟩ := hrel
            cases gk with
            | zero => exact absurd HA.out (by simp [dancestudioref57_Check.l2])
            | succ k4 =>
             have H := HA.out
             clear HA
             simp only [dancestudioref57_Check.l2] at H
             by_cases c34 : x6_4 < (l0_1.length : Int)
             ·rw [if_pos c34] at H
              have c34b0 : decide (x6_4 < (l0_1.length : Int)) = true := decide_eq_true c34
              clear c34
              by_cases c35 : 0 ≤ x6_4
              rotate_left
              ·rw [if_neg c35] at H
               exact absurd H (by simp)
              rw [if_pos c35] at H
              have c35b0 : decide (0 ≤ x6_4) = true := decide_eq_true c35
              clear c35
              replace H := Option.bind_eq_some_iff.mp H
              obtain ⟨t496, A360, H⟩ := H
              replace H : (if t496 = true then (dancestudioref57_Check.l2 k4 (wrap64 (x6_4 + 1)) a0_0 l0_1) else (some 6)) = some r := H
              have A36 := Aside0.mk A360
              clear A360
              by_cases c37 : t496 = true
              ·subst c37
               have H1 : (dancestudioref57_Check.l2 k4 (wrap64 (x6_4 + 1)) a0_0 l0_1) = some r := by rw [if_pos rfl] at H; exact H
               clear H
               have H := H1
               clear H1
               have H' := Aside0.mk H
               clear H
               have hcz38_0 := blk_cell BK489.out
               have hfz38_0 := blk_frozen BK489.out
               try go_wp2
               replace BK489 := Aside0.mk (blk_drew BK489.out)
               replace HB := Aside0.mk (below_drew1 HB.out)
               have p495 : 0 ≤ (x6_4 : Int) := of_decide_eq_true (by first | (with_reducible assumption) | assumption)
               have q495 : x6_4 < (l0_1.length : Int) := of_decide_eq_true (by first | (with_reducible assumption) | assumption)
               obtain ⟨ad495, e495, hx495_0, hx495_1, hx495_2, hx495_3, hx495_4, hx495_5, hx495_6, hx495_7, hx495_8, hx495_9, hx495_10, hx495_11, hx495_12⟩ := at_T30 HR0_1.out x6_4 p495 q495
               have hw495_12 := hx495_12
               have hw495_11 := hx495_11
               have hw495_10 := hx495_10
               have hw495_9 := hx495_9
               have hw495_8 := hx495_8
               have hw495_7 := hx495_7
               have hw495_6 := hx495_6
               have hw495_5 := hx495_5
               have hw495_4 := hx495_4
               have hw495_3 := hx495_3
               have hw495_2 := hx495_2
               have hw495_1 := hx495_1
               have hw495_0 := hx495_0
               cases e495
               replace hx495_0 := hbC HB hx495_0
               replace hx495_1 := hbC HB hx495_1
               replace hx495_2 := hbC HB hx495_2
               replace hx495_3 := hbC HB hx495_3
               replace hx495_4 := hbC HB hx495_4
               replace hx495_5 := hbC HB hx495_5
               replace hx495_6 := hbC HB hx495_6
               replace hx495_7 := hbC HB hx495_7
               replace hx495_8 := hbC HB hx495_8
               replace hx495_9 := hbC HB hx495_9
               replace hx495_10 := hbC HB hx495_10
               replace hx495_11 := hbC HB hx495_11
               replace hx495_12 := hbC HB hx495_12
               replace p495 := eq_true p495
               replace q495 := eq_true q495
               refine start_ (n := 9) (S := fun w' => w'.cell? ⟨gb489, 0, none⟩ = some (.int .i64 a0_0) ∧ w'.cell? ⟨gb489, 1, none⟩ = some (.slice (some ad495) l0_1.length c0_1) ∧ w'.cell? (ad495.add ((x6_4).toNat * 13)) = some (.int .i64 ((rd_T30 l0_1 x6_4).f0.f0)) ∧ w'.cell? ⟨(ad495.add ((x6_4).toNat * 13)).block, (ad495.add ((x6_4).toNat * 13)).off + 1, none⟩ = some (.int .i64 ((rd_T30 l0_1 x6_4).f0.f1)) ∧ w'.cell? ⟨(ad495.add ((x6_4).toNat * 13)).block, (ad495.add ((x6_4).toNat * 13)).off + 2, none⟩ = some (.int .i64 ((rd_T30 l0_1 x6_4).f1)) ∧ w'.cell? ⟨(ad495.add ((x6_4).toNat * 13)).block, (ad495.add ((x6_4).toNat * 13)).off + 3, none⟩ = some (.int .i64 ((rd_T30 l0_1 x6_4).f2.f0)) ∧ w'.cell? ⟨(ad495.add ((x6_4).toNat * 13)).block, (ad495.add ((x6_4).toNat * 13)).off + 4, none⟩ = some (.int .i64 ((rd_T30 l0_1 x6_4).f2.f1)) ∧ w'.cell? ⟨(ad495.add ((x6_4).toNat * 13)).block, (ad495.add ((x6_4).toNat * 13)).off + 5, none⟩ = some (.bool ((rd_T30 l0_1 x6_4).f3)) ∧ w'.cell? ⟨(ad495.add ((x6_4).toNat * 13)).block, (ad495.add ((x6_4).toNat * 13)).off + 6, none⟩ = some (.int .i64 ((rd_T30 l0_1 x6_4).f4.f0)) ∧ w'.cell? ⟨(ad495.add ((x6_4).toNat * 13)).block, (ad495.add ((x6_4).toNat * 13)).off + 7, none⟩ = some (.int .i64 ((rd_T30 l0_1 x6_4).f4.f1)) ∧ w'.cell? ⟨(ad495.add ((x6_4).toNat * 13)).block, (ad495.add ((x6_4).toNat * 13)).off + 8, none⟩ = some (.int .i64 ((rd_T30 l0_1 x6_4).f4.f2)) ∧ w'.cell? ⟨(ad495.add ((x6_4).toNat * 13)).block, (ad495.add ((x6_4).toNat * 13)).off + 9, none⟩ = some (.int .i64 ((rd_T30 l0_1 x6_4).f4.f3)) ∧ w'.cell? ⟨(ad495.add ((x6_4).toNat * 13)).block, (ad495.add ((x6_4).toNat * 13)).off + 10, none⟩ = some (.int .i64 ((rd_T30 l0_1 x6_4).f4.f4)) ∧ w'.cell? ⟨(ad495.add ((x6_4).toNat * 13)).block, (ad495.add ((x6_4).toNat * 13)).off + 11, none⟩ = some (.int .i64 ((rd_T30 l0_1 x6_4).f4.f5)) ∧ w'.cell? ⟨(ad495.add ((x6_4).toNat * 13)).block, (ad495.add ((x6_4).toNat * 13)).off + 12, none⟩ = some (.int .i64 ((rd_T30 l0_1 x6_4).f4.f6))) (ds := []) #[false, false, false, false, false, false, false, false, false] (by kernel_rfl) rfl rfl ⟨(blk_cell BK489.out 0).trans rfl, (blk_cell BK489.out 1).trans rfl, (hbC HB hw495_0), (hbC HB hw495_1), (hbC HB hw495_2), (hbC HB hw495_3), (hbC HB hw495_4), (hbC HB hw495_5), (hbC HB hw495_6), (hbC HB hw495_7), (hbC HB hw495_8), (hbC HB hw495_9), (hbC HB hw495_10), (hbC HB hw495_11), (hbC HB hw495_12)⟩ (fun hHeld => ?_); refine with_tabW dancestudioref57_Check.tab19 dancestudioref57_Check.bits19 (fun HT_ HW_ => ?_)
               generalize wr.drew = w39 at BK489 HB hx495_0 hx495_1 hx495_10 hx495_11 hx495_12 hx495_2 hx495_3 hx495_4 hx495_5 hx495_6 hx495_7 hx495_8 hx495_9 hHeld ⊢
               refine puA 0 64 (bs 9 1) ?_
               refine puA 2 66 (bs 9 5) ?_
               refine puA 4 68 (bs 9 21) ?_
               refine tkA 1 65 (bs 9 23) hHeld ?_
               refine tkA 3 67 (bs 9 31) hHeld ?_
               refine puA 5 69 (bs 9 63) ?_
               refine tkA 6 70 (bs 9 127) hHeld ?_
               refine one_ (i := 7) (N := some 71) (bs 9 255) rfl rfl (one_of HT_.out (by kernel_rfl)) (by decide) (fun K hK => ?_)
               refine goes_ Try.func63 (by kernel_rfl) rfl #[.slice (some ad495) l0_1.length c0_1, .agg #[.int .i64 ((rd_T30 l0_1 x6_4).f0.f0), .int .i64 ((rd_T30 l0_1 x6_4).f0.f1), .int .i64 ((rd_T30 l0_1 x6_4).f1), .int .i64 ((rd_T30 l0_1 x6_4).f2.f0), .int .i64 ((rd_T30 l0_1 x6_4).f2.f1), .bool ((rd_T30 l0_1 x6_4).f3), .int .i64 ((rd_T30 l0_1 x6_4).f4.f0), .int .i64 ((rd_T30 l0_1 x6_4).f4.f1), .int .i64 ((rd_T30 l0_1 x6_4).f4.f2), .int .i64 ((rd_T30 l0_1 x6_4).f4.f3), .int .i64 ((rd_T30 l0_1 x6_4).f4.f4), .int .i64 ((rd_T30 l0_1 x6_4).f4.f5), .int .i64 ((rd_T30 l0_1 x6_4).f4.f6)]] (by rfl) rfl rfl (by (try simp only [List.map_toArray, List.map_cons, List.map_nil]); first | done | rfl | (simp only [List.length_drop, List.length_take]; rfl)) ?_
               with_reducible refine (dancestudioref57_founded.calls k4 _ _ l0_1 ((rd_T30 l0_1 x6_4).f0.f0) ((rd_T30 l0_1 x6_4).f0.f1) ((rd_T30 l0_1 x6_4).f1) ((rd_T30 l0_1 x6_4).f2.f0) ((rd_T30 l0_1 x6_4).f2.f1) ((rd_T30 l0_1 x6_4).f3) ((rd_T30 l0_1 x6_4).f4.f0) ((rd_T30 l0_1 x6_4).f4.f1) ((rd_T30 l0_1 x6_4).f4.f2) ((rd_T30 l0_1 x6_4).f4.f3) ((rd_T30 l0_1 x6_4).f4.f4) ((rd_T30 l0_1 x6_4).f4.f5) ((rd_T30 l0_1 x6_4).f4.f6) true _ ?side1 ?side2 A36.out).mono ?_
               (case side1 => repeat (first | exact (Kd.C_below HR0_1.out HB.out) | (with_reducible refine Kd.C_alloc ?_ _) | (with_reducible refine Kd.C_drewN ?_ _) | (with_reducible refine Kd.C_drew ?_)))
               (case side2 => exact HC0_1.out)
               rintro e w40 ⟨rfl, hb⟩
               refine ⟨_, rfl, ?_⟩
               replace BK489 := Aside0.mk (blk_below (bU BK489.out) hb)
               replace HB := Aside0.mk (below_step (hU HB.out) hb)
               (try clear hb)
               (try clear hb2)
               (try clear hk)
               (try clear hi)
               refine hK.out _ _ ⟨(blk_cell BK489.out 0).trans rfl, (blk_cell BK489.out 1).trans rfl, (hbC HB hw495_0), (hbC HB hw495_1), (hbC HB hw495_2), (hbC HB hw495_3), (hbC HB hw495_4), (hbC HB hw495_5), (hbC HB hw495_6), (hbC HB hw495_7), (hbC HB hw495_8), (hbC HB hw495_9), (hbC HB hw495_10), (hbC HB hw495_11), (hbC HB hw495_12)⟩ (fun hHeld => ?_)
               clear hK K
               refine nmA 71 ?_
               refine puA 8 72 (bs 9 511) ?_
               refine done_ (done_of HT_.out (by kernel_rfl)) ?_
               try go_wp2
               go_roundg k4
               case measure => have := HJ1.out; have := HK2.out; have := HK3.out; have := HK4.out; omega
               case rel => exact ⟨(wrap64 (x6_4 + 1)), (by first | rfl | (simp; done) | (simp [*]; done)), H', ⟨by have := HJ1.out; have := HK2.out; have := HK3.out; have := HK4.out; omega⟩, ⟨by (with_reducible repeat (first | refine blk_drewN ?_ _ | refine blk_drew ?_ | refine blk_alloc ?_ _)); exact BK489.out⟩, ⟨hU HB.out⟩⟩
              ·replace c37 := Bool.eq_false_iff.mpr c37
               subst c37
               have H1 : (some 6) = some r := by rw [if_neg (show ¬ (false = true) by decide)] at H; exact H
               clear H
               have H := H1
               clear H1
               obtain rfl := Option.some.inj H
               have hcz41_0 := blk_cell BK489.out
               have hfz41_0 := blk_frozen BK489.out
               try go_wp2
               replace BK489 := Aside0.mk (blk_drew BK489.out)
               replace HB := Aside0.mk (below_drew1 HB.out)
               have p495 : 0 ≤ (x6_4 : Int) := of_decide_eq_true (by first | (with_reducible assumption) | assumption)
               have q495 : x6_4 < (l0_1.length : Int) := of_decide_eq_true (by first | (with_reducible assumption) | assumption)
               obtain ⟨ad495, e495, hx495_0, hx495_1, hx495_2, hx495_3, hx495_4, hx495_5, hx495_6, hx495_7, hx495_8, hx495_9, hx495_10, hx495_11, hx495_12⟩ := at_T30 HR0_1.out x6_4 p495 q495
               have hw495_12 := hx495_12
               have hw495_11 := hx495_11
               have hw495_10 := hx495_10
               have hw495_9 := hx495_9
               have hw495_8 := hx495_8
               have hw495_7 := hx495_7
               have hw495_6 := hx495_6
               have hw495_5 := hx495_5
               have hw495_4 := hx495_4
               have hw495_3 := hx495_3
               have hw495_2 := hx495_2
               have hw495_1 := hx495_1
               have hw495_0 := hx495_0
               cases e495
               replace hx495_0 := hbC HB hx495_0
               replace hx495_1 := hbC HB hx495_1
               replace hx495_2 := hbC HB hx495_2
               replace hx495_3 := hbC HB hx495_3
               replace hx495_4 := hbC HB hx495_4
               replace hx495_5 := hbC HB hx495_5
               replace hx495_6 := hbC HB hx495_6
               replace hx495_7 := hbC HB hx495_7
               replace hx495_8 := hbC HB hx495_8
               replace hx495_9 := hbC HB hx495_9
               replace hx495_10 := hbC HB hx495_10
               replace hx495_11 := hbC HB hx495_11
               replace hx495_12 := hbC HB hx495_12
               replace p495 := eq_true p495
               replace q495 := eq_true q495
               refine start_ (n := 9) (S := fun w' => w'.cell? ⟨gb489, 0, none⟩ = some (.int .i64 a0_0) ∧ w'.cell? ⟨gb489, 1, none⟩ = some (.slice (some ad495) l0_1.length c0_1) ∧ w'.cell? (ad495.add ((x6_4).toNat * 13)) = some (.int .i64 ((rd_T30 l0_1 x6_4).f0.f0)) ∧ w'.cell? ⟨(ad495.add ((x6_4).toNat * 13)).block, (ad495.add ((x6_4).toNat * 13)).off + 1, none⟩ = some (.int .i64 ((rd_T30 l0_1 x6_4).f0.f1)) ∧ w'.cell? ⟨(ad495.add ((x6_4).toNat * 13)).block, (ad495.add ((x6_4).toNat * 13)).off + 2, none⟩ = some (.int .i64 ((rd_T30 l0_1 x6_4).f1)) ∧ w'.cell? ⟨(ad495.add ((x6_4).toNat * 13)).block, (ad495.add ((x6_4).toNat * 13)).off + 3, none⟩ = some (.int .i64 ((rd_T30 l0_1 x6_4).f2.f0)) ∧ w'.cell? ⟨(ad495.add ((x6_4).toNat * 13)).block, (ad495.add ((x6_4).toNat * 13)).off + 4, none⟩ = some (.int .i64 ((rd_T30 l0_1 x6_4).f2.f1)) ∧ w'.cell? ⟨(ad495.add ((x6_4).toNat * 13)).block, (ad495.add ((x6_4).toNat * 13)).off + 5, none⟩ = some (.bool ((rd_T30 l0_1 x6_4).f3)) ∧ w'.cell? ⟨(ad495.add ((x6_4).toNat * 13)).block, (ad495.add ((x6_4).toNat * 13)).off + 6, none⟩ = some (.int .i64 ((rd_T30 l0_1 x6_4).f4.f0)) ∧ w'.cell? ⟨(ad495.add ((x6_4).toNat * 13)).block, (ad495.add ((x6_4).toNat * 13)).off + 7, none⟩ = some (.int .i64 ((rd_T30 l0_1 x6_4).f4.f1)) ∧ w'.cell? ⟨(ad495.add ((x6_4).toNat * 13)).block, (ad495.add ((x6_4).toNat * 13)).off + 8, none⟩ = some (.int .i64 ((rd_T30 l0_1 x6_4).f4.f2)) ∧ w'.cell? ⟨(ad495.add ((x6_4).toNat * 13)).block, (ad495.add ((x6_4).toNat * 13)).off + 9, none⟩ = some (.int .i64 ((rd_T30 l0_1 x6_4).f4.f3)) ∧ w'.cell? ⟨(ad495.add ((x6_4).toNat * 13)).block, (ad495.add ((x6_4).toNat * 13)).off + 10, none⟩ = some (.int .i64 ((rd_T30 l0_1 x6_4).f4.f4)) ∧ w'.cell? ⟨(ad495.add ((x6_4).toNat * 13)).block, (ad495.add ((x6_4).toNat * 13)).off + 11, none⟩ = some (.int .i64 ((rd_T30 l0_1 x6_4).f4.f5)) ∧ w'.cell? ⟨(ad495.add ((x6_4).toNat * 13)).block, (ad495.add ((x6_4).toNat * 13)).off + 12, none⟩ = some (.int .i64 ((rd_T30 l0_1 x6_4).f4.f6))) (ds := []) #[false, false, false, false, false, false, false, false, false] (by kernel_rfl) rfl rfl ⟨(blk_cell BK489.out 0).trans rfl, (blk_cell BK489.out 1).trans rfl, (hbC HB hw495_0), (hbC HB hw495_1), (hbC HB hw495_2), (hbC HB hw495_3), (hbC HB hw495_4), (hbC HB hw495_5), (hbC HB hw495_6), (hbC HB hw495_7), (hbC HB hw495_8), (hbC HB hw495_9), (hbC HB hw495_10), (hbC HB hw495_11), (hbC HB hw495_12)⟩ (fun hHeld => ?_); refine with_tabW dancestudioref57_Check.tab19 dancestudioref57_Check.bits19 (fun HT_ HW_ => ?_)
               generalize wr.drew = w42 at BK489 HB hx495_0 hx495_1 hx495_10 hx495_11 hx495_12 hx495_2 hx495_3 hx495_4 hx495_5 hx495_6 hx495_7 hx495_8 hx495_9 hHeld ⊢
               refine puA 0 64 (bs 9 1) ?_
               refine puA 2 66 (bs 9 5) ?_
               refine puA 4 68 (bs 9 21) ?_
               refine tkA 1 65 (bs 9 23) hHeld ?_
               refine tkA 3 67 (bs 9 31) hHeld ?_
               refine puA 5 69 (bs 9 63) ?_
               refine tkA 6 70 (bs 9 127) hHeld ?_
               refine one_ (i := 7) (N := some 71) (bs 9 255) rfl rfl (one_of HT_.out (by kernel_rfl)) (by decide) (fun K hK => ?_)
               refine goes_ Try.func63 (by kernel_rfl) rfl #[.slice (some ad495) l0_1.length c0_1, .agg #[.int .i64 ((rd_T30 l0_1 x6_4).f0.f0), .int .i64 ((rd_T30 l0_1 x6_4).f0.f1), .int .i64 ((rd_T30 l0_1 x6_4).f1), .int .i64 ((rd_T30 l0_1 x6_4).f2.f0), .int .i64 ((rd_T30 l0_1 x6_4).f2.f1), .bool ((rd_T30 l0_1 x6_4).f3), .int .i64 ((rd_T30 l0_1 x6_4).f4.f0), .int .i64 ((rd_T30 l0_1 x6_4).f4.f1), .int .i64 ((rd_T30 l0_1 x6_4).f4.f2), .int .i64 ((rd_T30 l0_1 x6_4).f4.f3), .int .i64 ((rd_T30 l0_1 x6_4).f4.f4), .int .i64 ((rd_T30 l0_1 x6_4).f4.f5), .int .i64 ((rd_T30 l0_1 x6_4).f4.f6)]] (by rfl) rfl rfl (by (try simp only [List.map_toArray, List.map_cons, List.map_nil]); first | done | rfl | (simp only [List.length_drop, List.length_take]; rfl)) ?_
               with_reducible refine (dancestudioref57_founded.calls k4 _ _ l0_1 ((rd_T30 l0_1 x6_4).f0.f0) ((rd_T30 l0_1 x6_4).f0.f1) ((rd_T30 l0_1 x6_4).f1) ((rd_T30 l0_1 x6_4).f2.f0) ((rd_T30 l0_1 x6_4).f2.f1) ((rd_T30 l0_1 x6_4).f3) ((rd_T30 l0_1 x6_4).f4.f0) ((rd_T30 l0_1 x6_4).f4.f1) ((rd_T30 l0_1 x6_4).f4.f2) ((rd_T30 l0_1 x6_4).f4.f3) ((rd_T30 l0_1 x6_4).f4.f4) ((rd_T30 l0_1 x6_4).f4.f5) ((rd_T30 l0_1 x6_4).f4.f6) false _ ?side1 ?side2 A36.out).mono ?_
               (case side1 => repeat (first | exact (Kd.C_below HR0_1.out HB.out) | (with_reducible refine Kd.C_alloc ?_ _) | (with_reducible refine Kd.C_drewN ?_ _) | (with_reducible refine Kd.C_drew ?_)))
               (case side2 => exact HC0_1.out)
               rintro e w43 ⟨rfl, hb⟩
               refine ⟨_, rfl, ?_⟩
               replace BK489 := Aside0.mk (blk_below (bU BK489.out) hb)
               replace HB := Aside0.mk (below_step (hU HB.out) hb)
               (try clear hb)
               (try clear hb2)
               (try clear hk)
               (try clear hi)
               refine hK.out _ _ ⟨(blk_cell BK489.out 0).trans rfl, (blk_cell BK489.out 1).trans rfl, (hbC HB hw495_0), (hbC HB hw495_1), (hbC HB hw495_2), (hbC HB hw495_3), (hbC HB hw495_4), (hbC HB hw495_5), (hbC HB hw495_6), (hbC HB hw495_7), (hbC HB hw495_8), (hbC HB hw495_9), (hbC HB hw495_10), (hbC HB hw495_11), (hbC HB hw495_12)⟩ (fun hHeld => ?_)
               clear hK K
               refine nmA 71 ?_
               refine puA 8 72 (bs 9 511) ?_
               refine done_ (done_of HT_.out (by kernel_rfl)) ?_
               try go_wp2
               go_ret
               exact ⟨by first | rfl | (simp [errW_none, errW_some] <;> rfl) | (simp [*, errW_none, errW_some] <;> rfl), hU HB.out⟩
             ·rw [if_neg c34] at H
              have c34b0 : decide (x6_4 < (l0_1.length : Int)) = false := decide_eq_false c34
              clear c34
              obtain rfl := Option.some.inj H
              have hcz44_0 := blk_cell BK489.out
              have hfz44_0 := blk_frozen BK489.out
              go_wp2
              go_ret
              exact ⟨by first | rfl | (simp [errW_none, errW_some] <;> rfl) | (simp [*, errW_none, errW_some] <;> rfl), hU HB.out⟩
end Go.Proofs.Yteopkkoblbmggaa.P
end

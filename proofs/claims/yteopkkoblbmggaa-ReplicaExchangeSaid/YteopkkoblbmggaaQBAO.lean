/- Texts of this claim in one: VP22; no condition. -/
import Derived.Test.YteopkkoblbmggaaQBAD
import Derived.Test.YteopkkoblbmggaaQBAE
import Derived.Test.YteopkkoblbmggaaQBAJ
import Derived.Test.YteopkkoblbmggaaQBAI
import Derived.Test.YteopkkoblbmggaaQBAN
import Derived.Test.YteopkkoblbmggaaQBAM
section
namespace Go.Proofs.Yteopkkoblbmggaa.P
open Go.RowKit Go.Proofs.YteopkkoblbmggaaW.PrintWords Go.Proofs.YteopkkoblbmggaaW.PrintLast Go.Proofs.YteopkkoblbmggaaW.PrintMore
attribute [local go_sem] YR YT Y11 Y12 YL YM YS YU
set_option linter.unusedVariables false
set_option linter.unusedSimpArgs false
attribute [local go_sem high] eqA28
def Ya.f (k : Nat)  : Option (Bool) := (Y1b.f).bind fun b_b => ((Y1e.f b_b.1 b_b.2 0 48).bind fun b_10 => ((Ym.f b_b.1 b_b.2).bind fun t249 => (if t249 = 0 then ((Yw.f).bind fun b_t => ((YA.f).bind fun b_u => ((Yl.f k b_10.1 (([(⟨b_t.1, b_t.2.1, b_t.2.2.1, b_t.2.2.2.1, b_t.2.2.2.2.1, b_t.2.2.2.2.2.1, b_t.2.2.2.2.2.2⟩ : S28), (⟨b_u.1, b_u.2.1, b_u.2.2.1, b_u.2.2.2.1, b_u.2.2.2.2.1, b_u.2.2.2.2.2.1, b_u.2.2.2.2.2.2⟩ : S28)] : List (S28)))).bind fun t267 => (if t267 = true then (if (b_10.2.1.length : Int) = 0 then (if b_10.2.2 = 0 then (if 2 ≤ (b_b.2.length : Int) then ((Y1e.f 1 (b_b.2.take 2) 0 48).bind fun b_v => ((Yw.f).bind fun b_c => ((Yl.f k b_v.1 (([(⟨b_c.1, b_c.2.1, b_c.2.2.1, b_c.2.2.2.1, b_c.2.2.2.2.1, b_c.2.2.2.2.2.1, b_c.2.2.2.2.2.2⟩ : S28)] : List (S28)))).bind fun t290 => (if t290 = true then ((Yb.f 2 2).bind fun b_w => ((Yj.f k b_v.2.1 (([(⟨b_w.1, b_w.2⟩ : S26)] : List (S26)))).bind fun t296 => (if t296 = true then (if b_v.2.2 = 0 then ((Yb.f 2 2).bind fun b_i => ((YV.f b_b.1 b_b.2 0 b_i.1 b_i.2).bind fun b_4 => ((Yb.f 1 1).bind fun b_k => ((YV.f b_b.1 b_b.2 1 b_k.1 b_k.2).bind fun b_x => ((YA.f).bind fun b_a => (if (!(b_4.1 == b_a.1) || (!(b_4.2.1 == b_a.2.1) || (!(b_4.2.2.1 == b_a.2.2.1) || (!(b_4.2.2.2.1 == b_a.2.2.2.1) || (!(b_4.2.2.2.2.1 == b_a.2.2.2.2.1) || (!(b_4.2.2.2.2.2.1 == b_a.2.2.2.2.2.1) || (!(b_4.2.2.2.2.2.2.1 == b_a.2.2.2.2.2.2)))))))) = true then (none) else (if b_4.2.2.2.2.2.2.2.1 = true then (if b_4.2.2.2.2.2.2.2.2 = 0 then (if b_x.2.2.2.2.2.2.2.2 = 6 then ((Yb.f 4 2).bind fun b_g => ((Yb.f 1 1).bind fun b_f => ((YJ.f b_b.1 b_b.2 b_g.1 b_g.2 0 b_f.1 b_f.2 true 0 0 0 0 0 0 0).bind fun b_d => (if b_d.2.2 = 0 then (if (b_d.2.1.length : Int) = 4 then ((Yb.f 1 1).bind fun b_q => ((YV.f b_d.1 b_d.2.1 0 b_q.1 b_q.2).bind fun b_5 => ((Yb.f 4 2).bind fun b_p => ((Yb.f 9 1).bind fun b_l => ((YJ.f b_b.1 b_b.2 b_p.1 b_p.2 0 b_l.1 b_l.2 true 0 0 0 0 0 0 0).bind fun b_y => ((Yb.f 2 2).bind fun b_e => ((Yb.f 2 2).bind fun b_h => ((Yw.f).bind fun b_6 => ((Yp.f b_e.1 b_e.2 b_h.1 b_h.2 b_6.1 b_6.2.1 b_6.2.2.1 b_6.2.2.2.1 b_6.2.2.2.2.1 b_6.2.2.2.2.2.1 b_6.2.2.2.2.2.2).bind fun b_2 => ((YJ.f b_b.1 b_b.2 b_2.1 b_2.2.1 b_2.2.2.1 b_2.2.2.2.1 b_2.2.2.2.2.1 b_2.2.2.2.2.2.1 b_2.2.2.2.2.2.2.1 b_2.2.2.2.2.2.2.2.1 b_2.2.2.2.2.2.2.2.2.1 b_2.2.2.2.2.2.2.2.2.2.1 b_2.2.2.2.2.2.2.2.2.2.2.1 b_2.2.2.2.2.2.2.2.2.2.2.2.1 b_2.2.2.2.2.2.2.2.2.2.2.2.2).bind fun b_z => ((Yb.f 1 1).bind fun b_n => ((Yb.f 1 1).bind fun b_o => ((Yw.f).bind fun b_9 => ((Yp.f b_n.1 b_n.2 b_o.1 b_o.2 b_9.1 b_9.2.1 b_9.2.2.1 b_9.2.2.2.1 b_9.2.2.2.2.1 b_9.2.2.2.2.2.1 b_9.2.2.2.2.2.2).bind fun b_3 => ((Yb.f 2 1).bind fun b_j => ((Yb.f 1 1).bind fun b_r => ((YQ.f).bind fun b_7 => ((Yp.f b_j.1 b_j.2 b_r.1 b_r.2 b_7.1 b_7.2.1 b_7.2.2.1 b_7.2.2.2.1 b_7.2.2.2.2.1 b_7.2.2.2.2.2.1 b_7.2.2.2.2.2.2).bind fun b_0 => ((Yb.f 3 1).bind fun b_m => ((Yb.f 2 1).bind fun b_s => ((YA.f).bind fun b_8 => ((Yp.f b_m.1 b_m.2 b_s.1 b_s.2 b_8.1 b_8.2.1 b_8.2.2.1 b_8.2.2.2.1 b_8.2.2.2.2.1 b_8.2.2.2.2.2.1 b_8.2.2.2.2.2.2).bind fun b_1 => (if (b_5.1 == 0 && (b_5.2.1 == 0 && (b_5.2.2.1 == 0 && (b_5.2.2.2.1 == 0 && (b_5.2.2.2.2.1 == 0 && (b_5.2.2.2.2.2.1 == 0 && (b_5.2.2.2.2.2.2.1 == 0))))))) = true then (if b_5.2.2.2.2.2.2.2.1 = true then (none) else (if b_5.2.2.2.2.2.2.2.2 = 0 then (if b_y.2.2 = 43 then (if b_z.2.2 = 7 then ((Ym.f 1 (([(⟨(⟨b_3.1, b_3.2.1⟩ : S26), b_3.2.2.1, (⟨b_3.2.2.2.1, b_3.2.2.2.2.1⟩ : S26), b_3.2.2.2.2.2.1, (⟨b_3.2.2.2.2.2.2.1, b_3.2.2.2.2.2.2.2.1, b_3.2.2.2.2.2.2.2.2.1, b_3.2.2.2.2.2.2.2.2.2.1, b_3.2.2.2.2.2.2.2.2.2.2.1, b_3.2.2.2.2.2.2.2.2.2.2.2.1, b_3.2.2.2.2.2.2.2.2.2.2.2.2⟩ : S28)⟩ : S30), (⟨(⟨b_0.1, b_0.2.1⟩ : S26), b_0.2.2.1, (⟨b_0.2.2.2.1, b_0.2.2.2.2.1⟩ : S26), b_0.2.2.2.2.2.1, (⟨b_0.2.2.2.2.2.2.1, b_0.2.2.2.2.2.2.2.1, b_0.2.2.2.2.2.2.2.2.1, b_0.2.2.2.2.2.2.2.2.2.1, b_0.2.2.2.2.2.2.2.2.2.2.1, b_0.2.2.2.2.2.2.2.2.2.2.2.1, b_0.2.2.2.2.2.2.2.2.2.2.2.2⟩ : S28)⟩ : S30), (⟨(⟨b_1.1, b_1.2.1⟩ : S26), b_1.2.2.1, (⟨b_1.2.2.2.1, b_1.2.2.2.2.1⟩ : S26), b_1.2.2.2.2.2.1, (⟨b_1.2.2.2.2.2.2.1, b_1.2.2.2.2.2.2.2.1, b_1.2.2.2.2.2.2.2.2.1, b_1.2.2.2.2.2.2.2.2.2.1, b_1.2.2.2.2.2.2.2.2.2.2.1, b_1.2.2.2.2.2.2.2.2.2.2.2.1, b_1.2.2.2.2.2.2.2.2.2.2.2.2⟩ : S28)⟩ : S30)] : List (S30)))).bind fun t_o => (some (t_o == 6))) else (none)) else (none)) else (none))) else (none)))))))))))))))))))))))) else (none)) else (none))))) else (none)) else (none)) else (none)))))))) else (none)) else (none)))) else (none))))) else (none)) else (none)) else (none)) else (none))))) else (none))))
theorem Ya.mono : ∀ k, LeO (Ya.f k ) (Ya.f (k + 1) ) := by
 intro  k
 unfold Ya.f
 repeat' first
   | (with_reducible exact Yl.mono _ _ _)
   | (with_reducible exact Yj.mono _ _ _)
   | (with_reducible exact LeO.refl _)
   | (with_reducible exact LeO.none _)
   | (with_reducible refine LeO.ite ?_ ?_)
   | (with_reducible refine LeO.bind ?_ (fun _ => ?_))
def Ya.T9 : Bool × List (List Nat × List Nat) := (true, [([], []), ([], []), ([0, 1, 1], [0, 1]), ([2], [2]), ([3], [3]), ([3], [3]), ([3], [3]), ([], []), ([7, 4, 2, 0, 1, 2, 3, 4, 7], [4, 7]), ([5, 8, 0, 1, 2, 3, 4, 5, 7, 8], [5]), ([6, 9, 0, 1, 2, 3, 4, 5, 6, 7, 8, 9], [6])])
def Ya.B9 : List Nat := [0, 0, 3, 7, 15, 15, 15, 0, 159, 447, 1023]
theorem Ya.tab9 : rtab .any (opsOf Try.f18 9) = Ya.T9 := by kernel_rfl
theorem Ya.bits9 : Y1d Ya.T9.2 Ya.B9 = true := by kernel_rfl
def Ya.T10 : Bool × List (List Nat × List Nat) := (true, [([], []), ([], []), ([0, 1, 1], [0, 1]), ([2], [2]), ([3], [3]), ([3], [3]), ([3], [3]), ([], []), ([7, 4, 2, 0, 1, 2, 3, 4, 7], [4, 7]), ([5, 8, 0, 1, 2, 3, 4, 5, 7, 8], [5]), ([6, 9, 0, 1, 2, 3, 4, 5, 6, 7, 8, 9], [6])])
def Ya.B10 : List Nat := [0, 0, 3, 7, 15, 15, 15, 0, 159, 447, 1023]
theorem Ya.tab10 : rtab .any (opsOf Try.f18 10) = Ya.T10 := by kernel_rfl
theorem Ya.bits10 : Y1d Ya.T10.2 Ya.B10 = true := by kernel_rfl
def Ya.T11 : Bool × List (List Nat × List Nat) := (true, [([], []), ([], []), ([0, 1], [0, 1]), ([2, 1], [2]), ([3], [3]), ([4, 3], [3, 4]), ([3, 5], [3, 5]), ([6, 3], [6]), ([7], [7]), ([8, 7], [7, 8]), ([7, 9], [7, 9]), ([10, 7], [10]), ([11], [11]), ([12, 11], [11, 12]), ([11, 13], [11, 13])])
def Ya.B11 : List Nat := [0, 0, 3, 7, 15, 31, 63, 127, 255, 511, 1023, 2047, 4095, 8191, 16383]
theorem Ya.tab11 : rtab .any (opsOf Try.f18 11) = Ya.T11 := by kernel_rfl
theorem Ya.bits11 : Y1d Ya.T11.2 Ya.B11 = true := by kernel_rfl
def Ya.T13 : Bool × List (List Nat × List Nat) := (true, [([], []), ([], []), ([1], []), ([1, 2], [1, 2]), ([0, 3, 2], [0, 3]), ([4], [4]), ([5], [5]), ([5], [5]), ([], []), ([8, 6, 4, 0, 1, 2, 3, 4, 5, 6, 8], [6, 8]), ([7, 9, 0, 1, 2, 3, 4, 5, 6, 7, 8, 9], [7])])
def Ya.B13 : List Nat := [0, 0, 2, 6, 15, 31, 63, 63, 0, 383, 1023]
theorem Ya.tab13 : rtab .any (opsOf Try.f18 13) = Ya.T13 := by kernel_rfl
theorem Ya.bits13 : Y1d Ya.T13.2 Ya.B13 = true := by kernel_rfl
def Ya.T16 : Bool × List (List Nat × List Nat) := (true, [([], []), ([], []), ([0, 1, 1], [0, 1]), ([2], [2]), ([3], [3]), ([3], [3]), ([3], [3]), ([4, 2, 0, 1, 2, 3, 4], [4]), ([5, 7, 0, 1, 2, 3, 4, 5, 7], [5]), ([6, 8, 0, 1, 2, 3, 4, 5, 6, 7, 8], [6])])
def Ya.B16 : List Nat := [0, 0, 3, 7, 15, 15, 15, 31, 191, 511]
theorem Ya.tab16 : rtab .any (opsOf Try.f18 16) = Ya.T16 := by kernel_rfl
theorem Ya.bits16 : Y1d Ya.T16.2 Ya.B16 = true := by kernel_rfl
def Ya.T17 : Bool × List (List Nat × List Nat) := (true, [([], []), ([], []), ([1], []), ([1, 2], [1, 2]), ([0, 3, 2], [0, 3]), ([4], [4]), ([5], [5]), ([5], [5]), ([], []), ([8, 6, 4, 0, 1, 2, 3, 4, 5, 6, 8], [6, 8]), ([7, 9, 0, 1, 2, 3, 4, 5, 6, 7, 8, 9], [7])])
def Ya.B17 : List Nat := [0, 0, 2, 6, 15, 31, 63, 63, 0, 383, 1023]
theorem Ya.tab17 : rtab .any (opsOf Try.f18 17) = Ya.T17 := by kernel_rfl
theorem Ya.bits17 : Y1d Ya.T17.2 Ya.B17 = true := by kernel_rfl
def Ya.T18 : Bool × List (List Nat × List Nat) := (true, [([], []), ([], []), ([1], []), ([2], []), ([1, 2, 3, 3], [1, 2, 3]), ([0, 4, 4], [0, 4]), ([5], [5]), ([6], [6]), ([6], [6]), ([], []), ([9, 7, 5, 0, 1, 2, 3, 4, 5, 6, 7, 9], [7, 9]), ([8, 10, 0, 1, 2, 3, 4, 5, 6, 7, 8, 9, 10], [8])])
def Ya.B18 : List Nat := [0, 0, 2, 6, 14, 31, 63, 127, 127, 0, 767, 2047]
theorem Ya.tab18 : rtab .any (opsOf Try.f18 18) = Ya.T18 := by kernel_rfl
theorem Ya.bits18 : Y1d Ya.T18.2 Ya.B18 = true := by kernel_rfl
set_option maxHeartbeats 8000000 in
set_option maxRecDepth 100000 in
theorem Ya.calls (k : Nat)  (r : Bool) (w : World) (h : Ya.f k  = some r) :
  Calls Try.prog 18 #[] w fun e w' => e = .returned (.bool r) ∧ Below w.heap.size w w' := by
 have hu24 := Try.underlying24
 have hu28 := Try.underlying28
 have hu30 := Try.underlying30
 have HB := Y0.mk (Below.refl w.heap.size w)
 have H := h
 unfold Ya.f at H
 clear h
 obtain ⟨⟨t_3, t_0⟩, A10, H⟩ := bS H
 try dsimp only at H
 have A1 := Y0.mk A10
 clear A10
 obtain ⟨⟨t242, t245, t248⟩, A20, H⟩ := bS H
 try dsimp only at H
 have A2 := Y0.mk A20
 clear A20
 obtain ⟨t249, A30, H⟩ := bS H
 try dsimp only at H
 have A3 := Y0.mk A30
 clear A30
 by_cases c4 : t249 = 0
 rotate_left
 ·rw [if_neg c4] at H
  exact absurd H (by simp)
 rw [if_pos c4] at H
 have c4b0 := bqT c4
 have c4b1 := bnF c4
 clear c4
 obtain ⟨⟨t250, t251, t252, t253, t254, t255, t256⟩, A50, H⟩ := bS H
 try dsimp only at H
 have A5 := Y0.mk A50
 clear A50
 obtain ⟨⟨t257, t258, t259, t260, t261, t262, t263⟩, A60, H⟩ := bS H
 try dsimp only at H
 have A6 := Y0.mk A60
 clear A60
 obtain ⟨y264, hy264⟩ : ∃ y_ : List (S28), y_ = (([(⟨t250, t251, t252, t253, t254, t255, t256⟩ : S28), (⟨t257, t258, t259, t260, t261, t262, t263⟩ : S28)] : List (S28))) := ⟨_, rfl⟩
 try dsimp only at H
 rw [← hy264] at H
 have Ny264 := Y0.mk hy264
 clear hy264
 obtain ⟨t267, A70, H⟩ := bS H
 try dsimp only at H
 have A7 := Y0.mk A70
 clear A70
 by_cases c8 : t267 = true
 rotate_left
 ·replace c8 := Bool.eq_false_iff.mpr c8
  subst c8
  have H1 : (none) = some r := by rw [if_neg (show ¬ (false = true) by decide)] at H; exact H
  clear H
  have H := H1
  clear H1
  exact absurd H (by simp)
 subst c8
 rw [if_pos rfl] at H
 obtain ⟨c9, H⟩ := iS H
 have c9b0 := bqT c9
 have c9b1 := bnF c9
 clear c9
 obtain ⟨c10, H⟩ := iS H
 have c10b0 := bqT c10
 have c10b1 := bnF c10
 clear c10
 obtain ⟨c11, H⟩ := iS H
 have c11b0 := eq_true c11
 have c11b1 := decide_eq_true c11
 clear c11
 obtain ⟨y268, hy268⟩ : ∃ y_ : List (S30), y_ = (t_0.take 2) := ⟨_, rfl⟩
 try dsimp only at H
 rw [← hy268] at H
 have Ny268 := Y0.mk hy268
 clear hy268
 obtain ⟨⟨t273, t276, t279⟩, A120, H⟩ := bS H
 try dsimp only at H
 have A12 := Y0.mk A120
 clear A120
 obtain ⟨⟨t280, t281, t282, t283, t284, t285, t286⟩, A130, H⟩ := bS H
 try dsimp only at H
 have A13 := Y0.mk A130
 clear A130
 obtain ⟨y287, hy287⟩ : ∃ y_ : List (S28), y_ = (([(⟨t280, t281, t282, t283, t284, t285, t286⟩ : S28)] : List (S28))) := ⟨_, rfl⟩
 try dsimp only at H
 rw [← hy287] at H
 have Ny287 := Y0.mk hy287
 clear hy287
 obtain ⟨t290, A140, H⟩ := bS H
 try dsimp only at H
 have A14 := Y0.mk A140
 clear A140
 by_cases c15 : t290 = true
 rotate_left
 ·replace c15 := Bool.eq_false_iff.mpr c15
  subst c15
  have H1 : (none) = some r := by rw [if_neg (show ¬ (false = true) by decide)] at H; exact H
  clear H
  have H := H1
  clear H1
  exact absurd H (by simp)
 subst c15
 rw [if_pos rfl] at H
 obtain ⟨⟨t291, t292⟩, A160, H⟩ := bS H
 try dsimp only at H
 have A16 := Y0.mk A160
 clear A160
 obtain ⟨y293, hy293⟩ : ∃ y_ : List (S26), y_ = (([(⟨t291, t292⟩ : S26)] : List (S26))) := ⟨_, rfl⟩
 try dsimp only at H
 rw [← hy293] at H
 have Ny293 := Y0.mk hy293
 clear hy293
 obtain ⟨t296, A170, H⟩ := bS H
 try dsimp only at H
 have A17 := Y0.mk A170
 clear A170
 by_cases c18 : t296 = true
 rotate_left
 ·replace c18 := Bool.eq_false_iff.mpr c18
  subst c18
  have H1 : (none) = some r := by rw [if_neg (show ¬ (false = true) by decide)] at H; exact H
  clear H
  have H := H1
  clear H1
  exact absurd H (by simp)
 subst c18
 rw [if_pos rfl] at H
 obtain ⟨c19, H⟩ := iS H
 have c19b0 := bqT c19
 have c19b1 := bnF c19
 clear c19
 obtain ⟨⟨t297, t298⟩, A200, H⟩ := bS H
 try dsimp only at H
 have A20 := Y0.mk A200
 clear A200
 obtain ⟨⟨t_g, t_h, t_f, t_e, t_i, t_d, t_j, t306, t307⟩, A210, H⟩ := bS H
 try dsimp only at H
 have A21 := Y0.mk A210
 clear A210
 obtain ⟨⟨t309, t310⟩, A220, H⟩ := bS H
 try dsimp only at H
 have A22 := Y0.mk A220
 clear A220
 obtain ⟨⟨t_k, t_l, t_m, t_n, t_q, t_s, t_v, t318, t319⟩, A230, H⟩ := bS H
 try dsimp only at H
 have A23 := Y0.mk A230
 clear A230
 obtain ⟨⟨t321, t322, t323, t324, t325, t326, t327⟩, A240, H⟩ := bS H
 try dsimp only at H
 have A24 := Y0.mk A240
 clear A240
 by_cases c25 : (!(t_g == t321) || (!(t_h == t322) || (!(t_f == t323) || (!(t_e == t324) || (!(t_i == t325) || (!(t_d == t326) || (!(t_j == t327)))))))) = true
 ·rw [if_pos c25] at H
  exact absurd H (by simp)
 rw [if_neg c25] at H
 have c25b0 : (!(t_g == t321) || (!(t_h == t322) || (!(t_f == t323) || (!(t_e == t324) || (!(t_i == t325) || (!(t_d == t326) || (!(t_j == t327)))))))) = false := by simpa using c25
 clear c25
 by_cases c26 : t306 = true
 rotate_left
 ·replace c26 := Bool.eq_false_iff.mpr c26
  subst c26
  have H1 : (none) = some r := by rw [if_neg (show ¬ (false = true) by decide)] at H; exact H
  clear H
  have H := H1
  clear H1
  exact absurd H (by simp)
 subst c26
 rw [if_pos rfl] at H
 obtain ⟨c27, H⟩ := iS H
 have c27b0 := bqT c27
 have c27b1 := bnF c27
 clear c27
 obtain ⟨c28, H⟩ := iS H
 have c28b0 := bqT c28
 have c28b1 := bnF c28
 clear c28
 obtain ⟨⟨t328, t329⟩, A290, H⟩ := bS H
 try dsimp only at H
 have A29 := Y0.mk A290
 clear A290
 obtain ⟨⟨t_x, t_z⟩, A300, H⟩ := bS H
 try dsimp only at H
 have A30 := Y0.mk A300
 clear A300
 obtain ⟨⟨t_4, t_1, t336⟩, A310, H⟩ := bS H
 try dsimp only at H
 have A31 := Y0.mk A310
 clear A310
 obtain ⟨c32, H⟩ := iS H
 have c32b0 := bqT c32
 have c32b1 := bnF c32
 clear c32
 obtain ⟨c33, H⟩ := iS H
 have c33b0 := bqT c33
 have c33b1 := bnF c33
 clear c33
 obtain ⟨⟨t338, t339⟩, A340, H⟩ := bS H
 try dsimp only at H
 have A34 := Y0.mk A340
 clear A340
 obtain ⟨⟨t_5, t_6, t_7, t_8, t_a, t_b, t_c, t347, t348⟩, A350, H⟩ := bS H
 try dsimp only at H
 have A35 := Y0.mk A350
 clear A350
 obtain ⟨⟨t349, t350⟩, A360, H⟩ := bS H
 try dsimp only at H
 have A36 := Y0.mk A360
 clear A360
 obtain ⟨⟨t_y, t352⟩, A370, H⟩ := bS H
 try dsimp only at H
 have A37 := Y0.mk A370
 clear A370
 obtain ⟨⟨t_9, t_2, t357⟩, A380, H⟩ := bS H
 try dsimp only at H
 have A38 := Y0.mk A380
 clear A380
 obtain ⟨⟨t_r, t_p⟩, A390, H⟩ := bS H
 try dsimp only at H
 have A39 := Y0.mk A390
 clear A390
 obtain ⟨⟨t_t, t_u⟩, A400, H⟩ := bS H
 try dsimp only at H
 have A40 := Y0.mk A400
 clear A400
 obtain ⟨⟨t363, t364, t365, t366, t367, t368, t369⟩, A410, H⟩ := bS H
 try dsimp only at H
 have A41 := Y0.mk A410
 clear A410
 obtain ⟨⟨t370, t371, t372, t373, t374, t375, t376, t377, t378, t379, t380, t381, t382⟩, A420, H⟩ := bS H
 try dsimp only at H
 have A42 := Y0.mk A420
 clear A420
 obtain ⟨⟨t_w, t384, t387⟩, A430, H⟩ := bS H
 try dsimp only at H
 have A43 := Y0.mk A430
 clear A430
 obtain ⟨⟨t389, t390⟩, A440, H⟩ := bS H
 try dsimp only at H
 have A44 := Y0.mk A440
 clear A440
 obtain ⟨⟨t391, t392⟩, A450, H⟩ := bS H
 try dsimp only at H
 have A45 := Y0.mk A450
 clear A450
 obtain ⟨⟨t393, t394, t395, t396, t397, t398, t399⟩, A460, H⟩ := bS H
 try dsimp only at H
 have A46 := Y0.mk A460
 clear A460
 obtain ⟨⟨t400, t401, t402, t403, t404, t405, t406, t407, t408, t409, t410, t411, t412⟩, A470, H⟩ := bS H
 try dsimp only at H
 have A47 := Y0.mk A470
 clear A470
 obtain ⟨⟨t413, t414⟩, A480, H⟩ := bS H
 try dsimp only at H
 have A48 := Y0.mk A480
 clear A480
 obtain ⟨⟨t415, t416⟩, A490, H⟩ := bS H
 try dsimp only at H
 have A49 := Y0.mk A490
 clear A490
 obtain ⟨⟨t417, t418, t419, t420, t421, t422, t423⟩, A500, H⟩ := bS H
 try dsimp only at H
 have A50 := Y0.mk A500
 clear A500
 obtain ⟨⟨t424, t425, t426, t427, t428, t429, t430, t431, t432, t433, t434, t435, t436⟩, A510, H⟩ := bS H
 try dsimp only at H
 have A51 := Y0.mk A510
 clear A510
 obtain ⟨⟨t437, t438⟩, A520, H⟩ := bS H
 try dsimp only at H
 have A52 := Y0.mk A520
 clear A520
 obtain ⟨⟨t439, t440⟩, A530, H⟩ := bS H
 try dsimp only at H
 have A53 := Y0.mk A530
 clear A530
 obtain ⟨⟨t441, t442, t443, t444, t445, t446, t447⟩, A540, H⟩ := bS H
 try dsimp only at H
 have A54 := Y0.mk A540
 clear A540
 obtain ⟨⟨t448, t449, t450, t451, t452, t453, t454, t455, t456, t457, t458, t459, t460⟩, A550, H⟩ := bS H
 try dsimp only at H
 have A55 := Y0.mk A550
 clear A550
 obtain ⟨y461, hy461⟩ : ∃ y_ : List (S30), y_ = (([(⟨(⟨t400, t401⟩ : S26), t402, (⟨t403, t404⟩ : S26), t405, (⟨t406, t407, t408, t409, t410, t411, t412⟩ : S28)⟩ : S30), (⟨(⟨t424, t425⟩ : S26), t426, (⟨t427, t428⟩ : S26), t429, (⟨t430, t431, t432, t433, t434, t435, t436⟩ : S28)⟩ : S30), (⟨(⟨t448, t449⟩ : S26), t450, (⟨t451, t452⟩ : S26), t453, (⟨t454, t455, t456, t457, t458, t459, t460⟩ : S28)⟩ : S30)] : List (S30))) := ⟨_, rfl⟩
 replace H : (if (t_5 == 0 && (t_6 == 0 && (t_7 == 0 && (t_8 == 0 && (t_a == 0 && (t_b == 0 && (t_c == 0))))))) = true then (if t347 = true then (none) else (if t348 = 0 then (if t357 = 43 then (if t387 = 7 then ((Ym.f 1 y461).bind fun t_o => (some (t_o == 6))) else (none)) else (none)) else (none))) else (none)) = some r := by first | (rw [hy461]; with_reducible exact H) | (have H2_ := (Option.bind_some _ _).symm.trans H; rw [hy461]; with_reducible exact H2_) | (have H2_ := (Option.bind_some _ _).symm.trans H; with_reducible exact H2_) | with_reducible exact H | (rw [hy461]; exact H) | exact H
 have Ny461 := Y0.mk hy461
 clear hy461
 obtain ⟨c56, H⟩ := iS H
 have c56b0 : (t_5 == 0 && (t_6 == 0 && (t_7 == 0 && (t_8 == 0 && (t_a == 0 && (t_b == 0 && (t_c == 0))))))) = true := c56
 (try (have c56b1 : decide (t_5 = 0 && (t_6 == 0 && (t_7 == 0 && (t_8 == 0 && (t_a == 0 && (t_b == 0 && (t_c == 0))))))) = true := by simpa using c56))
 (try (have c56b2 : (t_5 == 0 && (t_6 == 0 && (t_7 == 0 && (t_8 == 0 && (t_a == 0 && (t_b == 0 && (t_c == 0))))))) = true := by simpa using c56))
 clear c56
 by_cases c57 : t347 = true
 ·subst c57
  have H1 : (none) = some r := by rw [if_pos rfl] at H; exact H
  clear H
  have H := H1
  clear H1
  exact absurd H (by simp)
 replace c57 := Bool.eq_false_iff.mpr c57
 subst c57
 rw [if_neg (show ¬ (false = true) by decide)] at H
 obtain ⟨c58, H⟩ := iS H
 have c58b0 := bqT c58
 have c58b1 := bnF c58
 clear c58
 obtain ⟨c59, H⟩ := iS H
 have c59b0 := bqT c59
 have c59b1 := bnF c59
 clear c59
 obtain ⟨c60, H⟩ := iS H
 have c60b0 := bqT c60
 have c60b1 := bnF c60
 clear c60
 obtain ⟨t_o, A610, H⟩ := bS H
 replace H : (some (t_o == 6)) = some r := H
 have A61 := Y0.mk A610
 clear A610
 obtain rfl := Option.some.inj H
 go_enter Try.func18, Try.ntmps18
 try go_wp2_with (first | ((with_reducible refine Ye (N := 17) rfl ?_); (with_reducible refine Yd (f := 35) rfl ?_); refine YG (some 17) rfl rfl Try.func35 (by kernel_rfl) rfl #[] rfl (by (try simp only [List.map_toArray, List.map_cons, List.map_nil]); first | done | (go_simp; done) | rfl | (simp only [List.length_drop, List.length_take]; rfl)) ?_; (with_reducible refine (Y1b.calls  t_3 t_0 _ A1.out).mono ?_); rintro e w62 ⟨v_6, rfl, ho0, hb⟩; refine ⟨_, rfl, ?_⟩; replace O_0 := Y0.mk (Kd.R_lower ho0 (Yh (hU HB.out))); replace HB := Y0.mk (Y5 (hU HB.out) hb); (try clear hb); (try clear hb2); (try clear hk); (try clear hi); (try clear ho0)) | ((with_reducible refine Ye (N := 1) rfl ?_); (try (refine YD (by rfl) ?_; dsimp only)); refine Yf ?hg (N := 1) ?hd (cs := #[.int .i64 0, .slice none 0 0]) (t := 24) ?hr ?_; (case hd => rfl); (case hg => rfl); (case hr => first | (go_simp; done) | (go_simp; rfl)); intro g_1 hg w63 hbox hb; have n0_ := Y0.mk (Kd.R_below (Kd.rU O_0.out) hb); have n1_ := Y0.mk (Y5 (hU HB.out) hb); have n2_ := Y0.mk (hbox); have n3_ := gE hg HB; have n4_ := gE hg HB; clear O_0; clear HB; have O_0 := n0_; have HB := n1_; have B_0 := n2_; have W_5 := n3_; have G_5 := n4_; clear n0_ n1_ n2_ n3_ n4_; clear hb hbox hg; have z_5 := Y2 B_0.out; have f_4 := Y4 B_0.out; obtain ⟨Ao65, co65, eo65⟩ := Kd.R_slice O_0.out; subst eo65) | ((with_reducible refine Ye (N := 20) rfl ?_); (with_reducible refine Yd (f := 23) rfl ?_); refine YG (some 20) rfl rfl Try.func23 (by kernel_rfl) rfl #[.agg #[.int .i64 t_3, .slice Ao65 t_0.length co65], .int .i64 0, .int .i64 48] rfl (by (try simp only [List.map_toArray, List.map_cons, List.map_nil]); first | done | (go_simp; done) | rfl | (simp only [List.length_drop, List.length_take]; rfl)) ?_; (with_reducible refine (Y1e.calls t_3 _ _ t_0 0 48 t242 t245 t248 _ ?side1 ?side2 A2.out).mono ?_); (case side1 => refine (Kd.R_reads' (e := 30) (base := w.heap.size) (ok := fun k_ => True) (n := t_0.length) (c := co65) ?_).2.2; exact (by (with_reducible repeat (first | apply Kd.R_alloc | apply Kd.R_drewN | apply Kd.R_drew)); exact (Kd.R_mono (rf2 (g := g_1) (Kd.R_types O_0.out B_0.out (by decide)) (fun _ hk => hk.2)) (fun _ h_ => h_.1)))); (case side2 => exact (Kd.R_reads' O_0.out).2.1); rintro e w66 ⟨v_5, v_4, rfl, ho0, ho1, hb⟩; refine ⟨_, rfl, ?_⟩; replace O_0 := Y0.mk (Kd.R_below (by (with_reducible repeat (first | apply Kd.R_alloc | apply Kd.R_drewN | apply Kd.R_drew)); exact (Kd.R_mono (rf2 (g := g_1) (Kd.R_types O_0.out B_0.out (by decide)) (fun _ hk => hk.2)) (fun _ h_ => h_.1))) hb); replace O_4 := Y0.mk (Kd.R_lower ho0 (Yh (hU HB.out))); replace O_5 := Y0.mk (Kd.R_lower ho1 (Yh (hU HB.out))); replace B_0 := Y0.mk (Y3 (g := g_1) (o := .cells #[.int .i64 t_3, .slice Ao65 t_0.length co65] 24 (0, 0)) (by (with_reducible repeat (first | refine Y8 ?_ _ | refine Y7 ?_ | refine Y6 ?_ _)); refine Yn (cs := #[.int .i64 t_3, .slice none 0 0]) ?_ 1 _ rfl; (with_reducible repeat (first | refine Y8 ?_ _ | refine Y7 ?_ | refine Y6 ?_ _)); refine Yn (cs := #[.int .i64 0, .slice none 0 0]) ?_ 0 _ rfl; (with_reducible repeat (first | refine Y8 ?_ _ | refine Y7 ?_ | refine Y6 ?_ _)); exact B_0.out) hb); replace HB := Y0.mk (Y5 (hU HB.out) hb); (try clear hb); (try clear hb2); (try clear hk); (try clear hi); (try clear ho0); (try clear ho1); have z_6 := Y2 B_0.out; have f_0 := Y4 B_0.out) | ((with_reducible refine Ye (N := 25) rfl ?_); (with_reducible refine Yd (f := 29) rfl ?_); refine YG (some 25) rfl rfl Try.func29 (by kernel_rfl) rfl #[.agg #[.int .i64 t_3, .slice Ao65 t_0.length co65]] rfl (by (try simp only [List.map_toArray, List.map_cons, List.map_nil]); first | done | (go_simp; done) | rfl | (simp only [List.length_drop, List.length_take]; rfl)) ?_; (with_reducible refine (Ym.calls t_3 _ _ t_0 t249 _ ?side1 ?side2 A3.out).mono ?_); (case side1 => repeat (first | exact (Kd.R_reads' O_0.out).2.2 | (with_reducible refine Kd.C_alloc ?_ _) | (with_reducible refine Kd.C_drewN ?_ _) | (with_reducible refine Kd.C_drew ?_))); (case side2 => exact (Kd.R_reads' O_0.out).2.1); rintro e w68 ⟨rfl, hb⟩; refine ⟨_, rfl, ?_⟩; replace O_0 := Y0.mk (Kd.R_below (Kd.rU O_0.out) hb); replace O_4 := Y0.mk (Kd.R_below (Kd.rU O_4.out) hb); replace O_5 := Y0.mk (Kd.R_below (Kd.rU O_5.out) hb); replace B_0 := Y0.mk (Y3 (bU B_0.out) hb); replace HB := Y0.mk (Y5 (hU HB.out) hb); (try clear hb); (try clear hb2); (try clear hk); (try clear hi)) | (go_at_call 49; (with_reducible refine (Yw.calls  t250 t251 t252 t253 t254 t255 t256 _ A5.out).mono ?_); rintro e w69 ⟨rfl, hb⟩; replace O_0 := Y0.mk (Kd.R_below (Kd.rU O_0.out) hb); replace O_4 := Y0.mk (Kd.R_below (Kd.rU O_4.out) hb); replace O_5 := Y0.mk (Kd.R_below (Kd.rU O_5.out) hb); replace B_0 := Y0.mk (Y3 (bU B_0.out) hb); replace HB := Y0.mk (Y5 (hU HB.out) hb); (try clear hb); (try clear hb2); (try clear hk); (try clear hi)) | (go_at_call 50; (with_reducible refine (YA.calls  t257 t258 t259 t260 t261 t262 t263 _ A6.out).mono ?_); rintro e w70 ⟨rfl, hb⟩; replace O_0 := Y0.mk (Kd.R_below (Kd.rU O_0.out) hb); replace O_4 := Y0.mk (Kd.R_below (Kd.rU O_4.out) hb); replace O_5 := Y0.mk (Kd.R_below (Kd.rU O_5.out) hb); replace B_0 := Y0.mk (Y3 (bU B_0.out) hb); replace HB := Y0.mk (Y5 (hU HB.out) hb); (try clear hb); (try clear hb2); (try clear hk); (try clear hi)) | ((with_reducible refine Ye (N := 31) rfl ?_); (try (refine YD (by rfl) ?_; dsimp only)); refine Kd.R_lit k28 _ 28 ?hg (N := 31) ?hd (xs := ([(⟨t250, t251, t252, t253, t254, t255, t256⟩ : S28), (⟨t257, t258, t259, t260, t261, t262, t263⟩ : S28)] : List (S28))) (inner := [.int .i64 t250, .int .i64 t251, .int .i64 t252, .int .i64 t253, .int .i64 t254, .int .i64 t255, .int .i64 t256, .int .i64 t257, .int .i64 t258, .int .i64 t259, .int .i64 t260, .int .i64 t261, .int .i64 t262, .int .i64 t263]) (ok := fun _ => True) (okp := fun _ => True) ?hr ?hp (fun _ hk => hk) trivial (Below.refl _ _) (Nat.le_refl _) (by simp) ?_; (case hd => rfl); (case hg => rfl); (case hr => first | (go_simp; done) | (go_simp; rfl)); (case hp => exact (Reps.c7 (show Kd.M k28 _ _ _ (⟨t250, t251, t252, t253, t254, t255, t256⟩ : S28) [.int .i64 t250, .int .i64 t251, .int .i64 t252, .int .i64 t253, .int .i64 t254, .int .i64 t255, .int .i64 t256] from (Y2g _ _ _ (⟨t250, t251, t252, t253, t254, t255, t256⟩ : S28) )) (Reps.c7 (show Kd.M k28 _ _ _ (⟨t257, t258, t259, t260, t261, t262, t263⟩ : S28) [.int .i64 t257, .int .i64 t258, .int .i64 t259, .int .i64 t260, .int .i64 t261, .int .i64 t262, .int .i64 t263] from (Y2g _ _ _ (⟨t257, t258, t259, t260, t261, t262, t263⟩ : S28) )) (Reps.none _ _)))); intro v_7 w71 ho72 hb hg_ hnew_; clear hg_ hnew_; (first | rw [← Ny264.out] at ho72 | (simp only [Int.reduceToNat] at ho72; rw [← Ny264.out] at ho72)); have n0_ := Y0.mk (Kd.R_below (Kd.rU O_0.out) hb); have n1_ := Y0.mk (Kd.R_elder' (Kd.rU O_4.out) (Kd.R_base ho72) hb); have n2_ := Y0.mk (Kd.R_below (Kd.rU O_5.out) hb); have n3_ := Y0.mk (Kd.R_lower (Kd.R_new' ho72 (Kd.R_lt (Kd.rU O_4.out))) (Yh (hU HB.out))); have n4_ := Y0.mk (Y3 (bU B_0.out) hb); have n5_ := Y0.mk (Y5 (hU HB.out) hb); clear O_0; clear O_4; clear O_5; clear B_0; clear HB; have O_0 := n0_; have O_4 := n1_; have O_5 := n2_; have O_9 := n3_; have B_0 := n4_; have HB := n5_; clear n0_ n1_ n2_ n3_ n4_ n5_; clear hb ho72; obtain ⟨Ao73, co73, eo73⟩ := Kd.R_slice O_4.out; subst eo73; obtain ⟨Ao74, co74, eo74⟩ := Kd.R_slice O_9.out; subst eo74) | (go_at_call 25; (with_reducible refine (Yl.calls k _ _ t242 _ _ y264 true _ ?side1 ?side2 ?side3 ?side4 A7.out).mono ?_); (case side1 => repeat (first | exact (Kd.R_reads' O_4.out).2.2 | (with_reducible refine Kd.C_alloc ?_ _) | (with_reducible refine Kd.C_drewN ?_ _) | (with_reducible refine Kd.C_drew ?_))); (case side2 => exact (Kd.R_reads' O_4.out).2.1); (case side3 => repeat (first | exact (Kd.R_reads' O_9.out).2.2 | (with_reducible refine Kd.C_alloc ?_ _) | (with_reducible refine Kd.C_drewN ?_ _) | (with_reducible refine Kd.C_drew ?_))); (case side4 => exact (Kd.R_reads' O_9.out).2.1); rintro e w' ⟨rfl, ⟨nd, rfl⟩⟩; (try (rw [Y2c w71]; generalize hq_ : World.drewN w71 _ = w71; have n0_ : Y0 (Kd.R k30 30 w71 w.heap.size (fun _ => True) (.slice Ao65 t_0.length co65) t_0) := ⟨by rw [← hq_]; exact (Kd.rU O_0.out)⟩; have n1_ : Y0 (Kd.R k28 28 w71 w.heap.size (fun k_ => some k_ ≠ (.slice Ao74 y264.length co74 : Value).ownBlock) (.slice Ao73 t242.length co73) t242) := ⟨by rw [← hq_]; exact (by (with_reducible repeat (first | apply Kd.R_alloc | apply Kd.R_drewN | apply Kd.R_drew)); exact Kd.R_mono O_4.out (fun _ hk => hk.2))⟩; have n2_ : Y0 (Kd.R k26 26 w71 w.heap.size (fun _ => True) v_4 t245) := ⟨by rw [← hq_]; exact (Kd.rU O_5.out)⟩; have n3_ : Y0 (Kd.R k28 28 w71 w.heap.size (fun k_ => some k_ ≠ (.slice Ao73 t242.length co73 : Value).ownBlock) (.slice Ao74 y264.length co74) y264) := ⟨by rw [← hq_]; exact (by (with_reducible repeat (first | apply Kd.R_alloc | apply Kd.R_drewN | apply Kd.R_drew)); exact Kd.R_mono O_9.out (fun _ hk => hk.2))⟩; have n4_ : Y0 (w71.heap[g_1]? = some (.cells #[.int .i64 t_3, .slice Ao65 t_0.length co65] 24 (0, 0))) := ⟨by rw [← hq_]; exact (bU B_0.out)⟩; have n5_ : Y0 (Below w.heap.size w w71) := ⟨by rw [← hq_]; exact (hU HB.out)⟩; clear O_0 O_4 O_5 O_9 B_0 HB hq_; have O_0 := n0_; have O_4 := n1_; have O_5 := n2_; have O_9 := n3_; have B_0 := n4_; have HB := n5_; clear n0_ n1_ n2_ n3_ n4_ n5_)); (try have hcy241 := Y2 B_0.out); (try have hfy241 := Y4 B_0.out); obtain ⟨Ao75, co75, eo75⟩ := Kd.R_slice O_5.out; subst eo75; have z_0 := Y2 B_0.out; have f_6 := Y4 B_0.out; have q77 : (2 : Int) ≤ ((t_0.length : Int) : Int) := of_decide_eq_true (by first | (with_reducible assumption) | assumption); obtain ⟨i077, hi077, _, hsz77, _⟩ := info_parts Y1H; have hroom77 : t_0.length ≤ co65 := (Kd.R_reads' O_0.out).2.1; have hC77 : Kd.C k30 _ Ao65 t_0.length t_0 := (Kd.R_reads' O_0.out).2.2; have hcut77 := Y63 (P := Try.prog) 22 30 .i64 Try.underlying22 hi077 Ao65 t_0.length co65 2 (by omega) q77 hroom77; have hr77 := Kd.C_take (m := 2) hC77 (by omega); have hy77 : y268.length = (2 : Int).toNat := (by rw [Ny268.out, List.length_take]; omega); rw [← Ny268.out] at hr77; rw [← hy77] at hcut77; have HR271 := Y0.mk hr77; have HC271 := Y0.mk (show y268.length ≤ co65 from by omega); clear hr77 hC77 hroom77 hi077 hsz77; have KY77 := Y0.mk hy77; clear hy77; have KL77 := Y0.mk (show 2 ≤ t_0.length from by omega); replace q77 := eq_true q77) | ((with_reducible refine Ye (N := 5) rfl ?_); (try (refine YD (by rfl) ?_; dsimp only)); refine Yf ?hg (N := 5) ?hd (cs := #[.int .i64 0, .slice none 0 0]) (t := 24) ?hr ?_; (case hd => rfl); (case hg => rfl); (case hr => first | (go_simp; done) | (go_simp; rfl)); intro g_6 hg w78 hbox hb; have n0_ := Y0.mk (Kd.R_below (Kd.rU O_0.out) hb); have n1_ := Y0.mk (Y3 (bU B_0.out) hb); have n2_ := Y0.mk (Kd.C_below (by repeat (first | (with_reducible exact HR271.out) | (with_reducible refine Kd.C_alloc ?_ _) | (with_reducible refine Kd.C_drewN ?_ _) | (with_reducible refine Kd.C_drew ?_) | exact HR271.out)) hb); have n3_ := Y0.mk (Y5 (hU HB.out) hb); have n4_ := Y0.mk (hbox); have n5_ := gE hg HB; have n6_ := gE hg HB; have n7_ := gL hg B_0; have n8_ := gG hg B_0; clear O_0; clear B_0; clear HR271; clear HB; have O_0 := n0_; have B_0 := n1_; have HR271 := n2_; have HB := n3_; have B_6 := n4_; have W_6 := n5_; have G_6 := n6_; have N_o := n7_; have N_r := n8_; clear n0_ n1_ n2_ n3_ n4_ n5_ n6_ n7_ n8_; clear hb hbox hg; have hnb79 := N_r.out; have hnc79 := N_o.out; have z_1 := Y2 B_6.out; have f_2 := Y4 B_6.out) | ((with_reducible refine Ye (N := 50) rfl ?_); (with_reducible refine Yd (f := 23) rfl ?_); refine YG (some 50) rfl rfl Try.func23 (by kernel_rfl) rfl #[.agg #[.int .i64 1, .slice Ao65 y268.length co65], .int .i64 0, .int .i64 48] rfl (by (try simp only [List.map_toArray, List.map_cons, List.map_nil]); first | done | (go_simp; done) | rfl | (simp only [List.length_drop, List.length_take]; rfl)) ?_; (with_reducible refine (Y1e.calls 1 _ _ y268 0 48 t273 t276 t279 _ ?side1 ?side2 A12.out).mono ?_); (case side1 => repeat (first | exact ((by refine Eq.subst (motive := fun y_ => Kd.C _ _ _ y_.length y_) Ny268.out.symm ?_; exact Kd.C_take (m := 2) (Kd.R_reads' (by (with_reducible repeat (first | apply Kd.R_alloc | apply Kd.R_drewN | apply Kd.R_drew)); exact (Kd.R_mono (rf2 (g := g_6) (Kd.R_types O_0.out B_6.out (by decide)) (fun _ hk => hk.2)) (fun _ h_ => h_.1)))).2.2 KL77.out)) | (with_reducible refine Kd.C_alloc ?_ _) | (with_reducible refine Kd.C_drewN ?_ _) | (with_reducible refine Kd.C_drew ?_))); (case side2 => exact HC271.out); rintro e w81 ⟨v_8, v_3, rfl, ho0, ho1, hb⟩; refine ⟨_, rfl, ?_⟩; replace O_6 := Y0.mk (Kd.R_lower ho0 (Yh (hU HB.out))); replace O_3 := Y0.mk (Kd.R_lower ho1 (Yh (hU HB.out))); replace B_0 := Y0.mk (Y3 (g := g_1) (o := .cells #[.int .i64 t_3, .slice Ao65 t_0.length co65] 24 (0, 0)) (by (with_reducible repeat (first | refine Y8 ?_ _ | refine Y7 ?_ | refine Y6 ?_ _)); refine (Below.heap_setCell _ ⟨_, _, none⟩ _ _ N_o.out).trans ?_; (with_reducible repeat (first | refine Y8 ?_ _ | refine Y7 ?_ | refine Y6 ?_ _)); refine (Below.heap_setCell _ ⟨_, _, none⟩ _ _ N_o.out).trans ?_; (with_reducible repeat (first | refine Y8 ?_ _ | refine Y7 ?_ | refine Y6 ?_ _)); exact B_0.out) hb); replace HR271 := Y0.mk (Kd.C_below ((show Kd.C k30 _ Ao65 y268.length y268 from by refine Eq.subst (motive := fun y_ => Kd.C _ _ _ y_.length y_) Ny268.out.symm ?_; exact Kd.C_take (m := 2) (Kd.R_reads' (by (with_reducible repeat (first | apply Kd.R_alloc | apply Kd.R_drewN | apply Kd.R_drew)); exact (Kd.R_mono (rf2 (g := g_6) (Kd.R_types O_0.out B_6.out (by decide)) (fun _ hk => hk.2)) (fun _ h_ => h_.1)))).2.2 KL77.out)) hb); replace O_0 := Y0.mk (Kd.R_below (by (with_reducible repeat (first | apply Kd.R_alloc | apply Kd.R_drewN | apply Kd.R_drew)); exact (Kd.R_mono (rf2 (g := g_6) (Kd.R_types O_0.out B_6.out (by decide)) (fun _ hk => hk.2)) (fun _ h_ => h_.1))) hb); replace B_6 := Y0.mk (Y3 (g := g_6) (o := .cells #[.int .i64 1, .slice Ao65 y268.length co65] 24 (0, 0)) (by (with_reducible repeat (first | refine Y8 ?_ _ | refine Y7 ?_ | refine Y6 ?_ _)); refine Yn (cs := #[.int .i64 1, .slice none 0 0]) ?_ 1 _ rfl; (with_reducible repeat (first | refine Y8 ?_ _ | refine Y7 ?_ | refine Y6 ?_ _)); refine Yn (cs := #[.int .i64 0, .slice none 0 0]) ?_ 0 _ rfl; (with_reducible repeat (first | refine Y8 ?_ _ | refine Y7 ?_ | refine Y6 ?_ _)); exact B_6.out) hb); replace HB := Y0.mk (Y5 (hU HB.out) hb); (try clear hb); (try clear hb2); (try clear hk); (try clear hi); (try clear ho0); (try clear ho1)) | ((with_reducible refine Ye (N := 55) rfl ?_); (with_reducible refine Yd (f := 49) rfl ?_); refine YG (some 55) rfl rfl Try.func49 (by kernel_rfl) rfl #[] rfl (by (try simp only [List.map_toArray, List.map_cons, List.map_nil]); first | done | (go_simp; done) | rfl | (simp only [List.length_drop, List.length_take]; rfl)) ?_; (with_reducible refine (Yw.calls  t280 t281 t282 t283 t284 t285 t286 _ A13.out).mono ?_); rintro e w82 ⟨rfl, hb⟩; refine ⟨_, rfl, ?_⟩; replace O_0 := Y0.mk (Kd.R_below (Kd.rU O_0.out) hb); replace O_6 := Y0.mk (Kd.R_below (Kd.rU O_6.out) hb); replace O_3 := Y0.mk (Kd.R_below (Kd.rU O_3.out) hb); replace B_0 := Y0.mk (Y3 (bU B_0.out) hb); replace HB := Y0.mk (Y5 (hU HB.out) hb); (try clear hb); (try clear hb2); (try clear hk); (try clear hi)) | ((with_reducible refine Ye (N := 56) rfl ?_); (try (refine YD (by rfl) ?_; dsimp only)); refine Kd.R_lit k28 _ 28 ?hg (N := 56) ?hd (xs := ([(⟨t280, t281, t282, t283, t284, t285, t286⟩ : S28)] : List (S28))) (inner := [.int .i64 t280, .int .i64 t281, .int .i64 t282, .int .i64 t283, .int .i64 t284, .int .i64 t285, .int .i64 t286]) (ok := fun _ => True) (okp := fun _ => True) ?hr ?hp (fun _ hk => hk) trivial (Below.refl _ _) (Nat.le_refl _) (by simp) ?_; (case hd => rfl); (case hg => rfl); (case hr => first | (go_simp; done) | (go_simp; rfl)); (case hp => exact (Reps.c7 (show Kd.M k28 _ _ _ (⟨t280, t281, t282, t283, t284, t285, t286⟩ : S28) [.int .i64 t280, .int .i64 t281, .int .i64 t282, .int .i64 t283, .int .i64 t284, .int .i64 t285, .int .i64 t286] from (Y2g _ _ _ (⟨t280, t281, t282, t283, t284, t285, t286⟩ : S28) )) (Reps.none _ _))); intro v_b w83 ho84 hb hg_ hnew_; clear hg_ hnew_; (first | rw [← Ny287.out] at ho84 | (simp only [Int.reduceToNat] at ho84; rw [← Ny287.out] at ho84)); have n0_ := Y0.mk (Kd.R_below (Kd.rU O_0.out) hb); have n1_ := Y0.mk (Kd.R_elder' (Kd.rU O_6.out) (Kd.R_base ho84) hb); have n2_ := Y0.mk (Kd.R_below (Kd.rU O_3.out) hb); have n3_ := Y0.mk (Kd.R_lower (Kd.R_new' ho84 (Kd.R_lt (Kd.rU O_6.out))) (Yh (hU HB.out))); have n4_ := Y0.mk (Y3 (bU B_0.out) hb); have n5_ := Y0.mk (Y5 (hU HB.out) hb); clear O_0; clear O_6; clear O_3; clear B_0; clear HB; have O_0 := n0_; have O_6 := n1_; have O_3 := n2_; have O_a := n3_; have B_0 := n4_; have HB := n5_; clear n0_ n1_ n2_ n3_ n4_ n5_; clear hb ho84; obtain ⟨Ao85, co85, eo85⟩ := Kd.R_slice O_6.out; subst eo85; obtain ⟨Ao86, co86, eo86⟩ := Kd.R_slice O_a.out; subst eo86) | ((with_reducible refine Ye (N := 57) rfl ?_); (with_reducible refine Yd (f := 25) rfl ?_); refine YG (some 57) rfl rfl Try.func25 (by kernel_rfl) rfl #[.slice Ao85 t273.length co85, .slice Ao86 y287.length co86] rfl (by (try simp only [List.map_toArray, List.map_cons, List.map_nil]); first | done | (go_simp; done) | rfl | (simp only [List.length_drop, List.length_take]; rfl)) ?_; (with_reducible refine (Yl.calls k _ _ t273 _ _ y287 true _ ?side1 ?side2 ?side3 ?side4 A14.out).mono ?_); (case side1 => repeat (first | exact (Kd.R_reads' O_6.out).2.2 | (with_reducible refine Kd.C_alloc ?_ _) | (with_reducible refine Kd.C_drewN ?_ _) | (with_reducible refine Kd.C_drew ?_))); (case side2 => exact (Kd.R_reads' O_6.out).2.1); (case side3 => repeat (first | exact (Kd.R_reads' O_a.out).2.2 | (with_reducible refine Kd.C_alloc ?_ _) | (with_reducible refine Kd.C_drewN ?_ _) | (with_reducible refine Kd.C_drew ?_))); (case side4 => exact (Kd.R_reads' O_a.out).2.1); rintro e w' ⟨rfl, ⟨nd, rfl⟩⟩; refine ⟨_, rfl, ?_⟩; (try (rw [Y2c w83]; generalize hq_ : World.drewN w83 _ = w83; have n0_ : Y0 (Kd.R k30 30 w83 w.heap.size (fun _ => True) (.slice Ao65 t_0.length co65) t_0) := ⟨by rw [← hq_]; exact (Kd.rU O_0.out)⟩; have n1_ : Y0 (Kd.R k28 28 w83 w.heap.size (fun k_ => some k_ ≠ (.slice Ao86 y287.length co86 : Value).ownBlock) (.slice Ao85 t273.length co85) t273) := ⟨by rw [← hq_]; exact (by (with_reducible repeat (first | apply Kd.R_alloc | apply Kd.R_drewN | apply Kd.R_drew)); exact Kd.R_mono O_6.out (fun _ hk => hk.2))⟩; have n2_ : Y0 (Kd.R k26 26 w83 w.heap.size (fun _ => True) v_3 t276) := ⟨by rw [← hq_]; exact (Kd.rU O_3.out)⟩; have n3_ : Y0 (Kd.R k28 28 w83 w.heap.size (fun k_ => some k_ ≠ (.slice Ao85 t273.length co85 : Value).ownBlock) (.slice Ao86 y287.length co86) y287) := ⟨by rw [← hq_]; exact (by (with_reducible repeat (first | apply Kd.R_alloc | apply Kd.R_drewN | apply Kd.R_drew)); exact Kd.R_mono O_a.out (fun _ hk => hk.2))⟩; have n4_ : Y0 (w83.heap[g_1]? = some (.cells #[.int .i64 t_3, .slice Ao65 t_0.length co65] 24 (0, 0))) := ⟨by rw [← hq_]; exact (bU B_0.out)⟩; have n5_ : Y0 (Below w.heap.size w w83) := ⟨by rw [← hq_]; exact (hU HB.out)⟩; clear O_0 O_6 O_3 O_a B_0 HB hq_; have O_0 := n0_; have O_6 := n1_; have O_3 := n2_; have O_a := n3_; have B_0 := n4_; have HB := n5_; clear n0_ n1_ n2_ n3_ n4_ n5_)); (try have hcy241 := Y2 B_0.out); (try have hfy241 := Y4 B_0.out)) | (go_at_call 51; (with_reducible refine (Yb.calls 2 2 t291 t292 _ A16.out).mono ?_); rintro e w87 ⟨rfl, hb⟩; replace O_0 := Y0.mk (Kd.R_below (Kd.rU O_0.out) hb); replace O_3 := Y0.mk (Kd.R_below (Kd.rU O_3.out) hb); replace B_0 := Y0.mk (Y3 (bU B_0.out) hb); replace HB := Y0.mk (Y5 (hU HB.out) hb); (try clear hb); (try clear hb2); (try clear hk); (try clear hi)) | ((with_reducible refine Ye (N := 62) rfl ?_); (try (refine YD (by rfl) ?_; dsimp only)); refine Kd.R_lit k26 _ 26 ?hg (N := 62) ?hd (xs := ([(⟨t291, t292⟩ : S26)] : List (S26))) (inner := [.int .i64 t291, .int .i64 t292]) (ok := fun _ => True) (okp := fun _ => True) ?hr ?hp (fun _ hk => hk) trivial (Below.refl _ _) (Nat.le_refl _) (by simp) ?_; (case hd => rfl); (case hg => rfl); (case hr => first | (go_simp; done) | (go_simp; rfl)); (case hp => exact (Reps.c2 (show Kd.M k26 _ _ _ (⟨t291, t292⟩ : S26) [.int .i64 t291, .int .i64 t292] from (Y2f _ _ _ (⟨t291, t292⟩ : S26) )) (Reps.none _ _))); intro v_a w88 ho89 hb hg_ hnew_; clear hg_ hnew_; (first | rw [← Ny293.out] at ho89 | (simp only [Int.reduceToNat] at ho89; rw [← Ny293.out] at ho89)); have n0_ := Y0.mk (Kd.R_below (Kd.rU O_0.out) hb); have n1_ := Y0.mk (Kd.R_elder' (Kd.rU O_3.out) (Kd.R_base ho89) hb); have n2_ := Y0.mk (Kd.R_lower (Kd.R_new' ho89 (Kd.R_lt (Kd.rU O_3.out))) (Yh (hU HB.out))); have n3_ := Y0.mk (Y3 (bU B_0.out) hb); have n4_ := Y0.mk (Y5 (hU HB.out) hb); clear O_0; clear O_3; clear B_0; clear HB; have O_0 := n0_; have O_3 := n1_; have O_b := n2_; have B_0 := n3_; have HB := n4_; clear n0_ n1_ n2_ n3_ n4_; clear hb ho89; obtain ⟨Ao90, co90, eo90⟩ := Kd.R_slice O_3.out; subst eo90; obtain ⟨Ao91, co91, eo91⟩ := Kd.R_slice O_b.out; subst eo91) | (go_at_call 26; (with_reducible refine (Yj.calls k _ _ t276 _ _ y293 true _ ?side1 ?side2 ?side3 ?side4 A17.out).mono ?_); (case side1 => repeat (first | exact (Kd.R_reads' O_3.out).2.2 | (with_reducible refine Kd.C_alloc ?_ _) | (with_reducible refine Kd.C_drewN ?_ _) | (with_reducible refine Kd.C_drew ?_))); (case side2 => exact (Kd.R_reads' O_3.out).2.1); (case side3 => repeat (first | exact (Kd.R_reads' O_b.out).2.2 | (with_reducible refine Kd.C_alloc ?_ _) | (with_reducible refine Kd.C_drewN ?_ _) | (with_reducible refine Kd.C_drew ?_))); (case side4 => exact (Kd.R_reads' O_b.out).2.1); rintro e w' ⟨rfl, ⟨nd, rfl⟩⟩; (try (rw [Y2c w88]; generalize hq_ : World.drewN w88 _ = w88; have n0_ : Y0 (Kd.R k30 30 w88 w.heap.size (fun _ => True) (.slice Ao65 t_0.length co65) t_0) := ⟨by rw [← hq_]; exact (Kd.rU O_0.out)⟩; have n1_ : Y0 (Kd.R k26 26 w88 w.heap.size (fun k_ => some k_ ≠ (.slice Ao91 y293.length co91 : Value).ownBlock) (.slice Ao90 t276.length co90) t276) := ⟨by rw [← hq_]; exact (by (with_reducible repeat (first | apply Kd.R_alloc | apply Kd.R_drewN | apply Kd.R_drew)); exact Kd.R_mono O_3.out (fun _ hk => hk.2))⟩; have n2_ : Y0 (Kd.R k26 26 w88 w.heap.size (fun k_ => some k_ ≠ (.slice Ao90 t276.length co90 : Value).ownBlock) (.slice Ao91 y293.length co91) y293) := ⟨by rw [← hq_]; exact (by (with_reducible repeat (first | apply Kd.R_alloc | apply Kd.R_drewN | apply Kd.R_drew)); exact Kd.R_mono O_b.out (fun _ hk => hk.2))⟩; have n3_ : Y0 (w88.heap[g_1]? = some (.cells #[.int .i64 t_3, .slice Ao65 t_0.length co65] 24 (0, 0))) := ⟨by rw [← hq_]; exact (bU B_0.out)⟩; have n4_ : Y0 (Below w.heap.size w w88) := ⟨by rw [← hq_]; exact (hU HB.out)⟩; clear O_0 O_3 O_b B_0 HB hq_; have O_0 := n0_; have O_3 := n1_; have O_b := n2_; have B_0 := n3_; have HB := n4_; clear n0_ n1_ n2_ n3_ n4_)); (try have hcy241 := Y2 B_0.out); (try have hfy241 := Y4 B_0.out)))
 replace O_0 := Y0.mk (Kd.R_drew O_0.out)
 replace B_0 := Y0.mk (Y7 B_0.out)
 replace HB := Y0.mk (Yv HB.out)
 refine Y19 (n := 11) (S := fun w' => w'.cell? ⟨g_1, 0, none⟩ = some (.int .i64 t_3) ∧ w'.cell? ⟨g_1, 1, none⟩ = some (.slice Ao65 t_0.length co65)) (ds := []) #[false, false, false, false, false, false, false, false, false, false, false] (by kernel_rfl) rfl rfl ⟨(Y2 B_0.out 0).trans rfl, (Y2 B_0.out 1).trans rfl⟩ (fun hHeld => ?_); refine YO Ya.tab9 Ya.bits9 (fun HT_ HW_ => ?_)
 generalize w88.drew = w92 at O_0 B_0 HB hHeld ⊢
 refine tkA 0 71 (bs 11 1) hHeld ?_
 refine join_ (σ := Nat) 3 #[true, true, true, true, true, true, true, true, false, false, false] (fun s_ => [(72, .agg #[.int .i64 t297, .int .i64 t298]), (73, .tuple #[.agg #[.int .i64 t_g, .int .i64 t_h, .int .i64 t_f, .int .i64 t_e, .int .i64 t_i, .int .i64 t_d, .int .i64 t_j], .bool true, .int .i64 t307]), (6, .pointer (some ⟨s_, 0, none⟩)), (70, .tuple #[.agg #[.int .i64 t_g, .int .i64 t_h, .int .i64 t_f, .int .i64 t_e, .int .i64 t_i, .int .i64 t_d, .int .i64 t_j], .bool true, .int .i64 t307]), (74, .agg #[.int .i64 t_g, .int .i64 t_h, .int .i64 t_f, .int .i64 t_e, .int .i64 t_i, .int .i64 t_d, .int .i64 t_j]), (75, .bool true), (76, .int .i64 t307)]) (fun s_ w' => (w'.cell? ⟨g_1, 0, none⟩ = some (.int .i64 t_3) ∧ w'.cell? ⟨g_1, 1, none⟩ = some (.slice Ao65 t_0.length co65)) ∧ (Kd.R k30 30 w' w.heap.size (fun _ => True) (.slice Ao65 t_0.length co65) t_0) ∧ (w'.heap[g_1]? = some (.cells #[.int .i64 t_3, .slice Ao65 t_0.length co65] 24 (0, 0))) ∧ (w'.heap[s_]? = some (.cells #[.int .i64 0, .int .i64 0, .int .i64 0, .int .i64 0, .int .i64 0, .int .i64 0, .int .i64 0] 28 (0, 0))) ∧ (w.heap.size ≤ s_) ∧ (w.heap.size ≤ s_) ∧ (g_1 ≠ s_) ∧ (s_ ≠ g_1) ∧ (Below w.heap.size w w')) ?_ ?_
 rotate_left
 ·intro hCont
  refine two_ (i := 1) (j := 7) (Ni := some 72) (Nj := some 6) #[true, true, false, false, false, false, false, false, false, false, false] #[true, false, false, false, false, false, false, true, false, false, false] rfl rfl rfl rfl (Y1w HT_.out (by kernel_rfl)) (by decide) (by decide) (fun K hK => ?_) (fun K hK => ?_)
  ·skip
   refine goes_ Try.func51 (by kernel_rfl) rfl #[.int .i64 2, .int .i64 2] (by rfl) rfl rfl (by (try simp only [List.map_toArray, List.map_cons, List.map_nil]); first | done | (go_simp; done) | rfl | (simp only [List.length_drop, List.length_take]; rfl)) ?_
   with_reducible refine (Yb.calls 2 2 t297 t298 _ A20.out).mono ?_
   rintro e w93 ⟨rfl, hb⟩
   refine ⟨_, rfl, ?_⟩
   replace O_0 := Y0.mk (Kd.R_below (Kd.rU O_0.out) hb)
   replace B_0 := Y0.mk (Y3 (bU B_0.out) hb)
   replace HB := Y0.mk (Y5 (hU HB.out) hb)
   (try clear hb)
   (try clear hb2)
   (try clear hk)
   (try clear hi)
   refine hK.out _ _ ⟨(Y2 B_0.out 0).trans rfl, (Y2 B_0.out 1).trans rfl⟩ (fun hHeld => ?_)
   clear hK K
   refine nmA 72 ?_
   refine two_ (i := 2) (j := 7) (Ni := some 73) (Nj := some 6) #[true, true, true, false, false, false, false, false, false, false, false] #[true, true, false, false, false, false, false, true, false, false, false] rfl rfl rfl rfl (Y1w HT_.out (by kernel_rfl)) (by decide) (by decide) (fun K hK => ?_) (fun K hK => ?_)
   ·skip
    refine goes_ Try.func27 (by kernel_rfl) rfl #[.agg #[.int .i64 t_3, .slice Ao65 t_0.length co65], .int .i64 0, .agg #[.int .i64 t297, .int .i64 t298]] (by rfl) rfl rfl (by (try simp only [List.map_toArray, List.map_cons, List.map_nil]); first | done | (go_simp; done) | rfl | (simp only [List.length_drop, List.length_take]; rfl)) ?_
    with_reducible refine (YV.calls t_3 _ _ t_0 0 t297 t298 t_g t_h t_f t_e t_i t_d t_j true t307 _ ?side1 ?side2 A21.out).mono ?_
    (case side1 => repeat (first | exact (Kd.R_reads' O_0.out).2.2 | (with_reducible refine Kd.C_alloc ?_ _) | (with_reducible refine Kd.C_drewN ?_ _) | (with_reducible refine Kd.C_drew ?_)))
    (case side2 => exact (Kd.R_reads' O_0.out).2.1)
    rintro e w94 ⟨rfl, hb⟩
    refine ⟨_, rfl, ?_⟩
    replace O_0 := Y0.mk (Kd.R_below (Kd.rU O_0.out) hb)
    replace B_0 := Y0.mk (Y3 (bU B_0.out) hb)
    replace HB := Y0.mk (Y5 (hU HB.out) hb)
    (try clear hb)
    (try clear hb2)
    (try clear hk)
    (try clear hi)
    refine hK.out _ _ ⟨(Y2 B_0.out 0).trans rfl, (Y2 B_0.out 1).trans rfl⟩ (fun hHeld => ?_)
    clear hK K
    refine nmA 73 ?_
    refine puA 3 70 (bs 11 15) ?_
    refine puA 4 74 (bs 11 31) ?_
    refine puA 5 75 (bs 11 63) ?_
    refine puA 6 76 (bs 11 127) ?_
    refine one_ (i := 7) (N := some 6) (bs 11 255) rfl rfl (YH HT_.out (by kernel_rfl)) (by decide) (fun K hK => ?_)
    refine YY ?hg (N := 6) ?hd (cs := #[.int .i64 0, .int .i64 0, .int .i64 0, .int .i64 0, .int .i64 0, .int .i64 0, .int .i64 0]) (t := 28) ?hr ?_; (case hd => rfl); (case hg => rfl); (case hr => first | (go_simp; done) | (go_simp; rfl))
    intro g_0 hg w95 hbox hb
    have n0_ := Y0.mk (Kd.R_below (Kd.rU O_0.out) hb)
    have n1_ := Y0.mk (Y3 (bU B_0.out) hb)
    have n2_ := Y0.mk (Y5 (hU HB.out) hb)
    have n3_ := Y0.mk (hbox)
    have n4_ := gE hg HB
    have n5_ := gE hg HB
    have n6_ := gL hg B_0
    have n7_ := gG hg B_0
    clear O_0
    clear B_0
    clear HB
    have O_0 := n0_
    have B_0 := n1_
    have HB := n2_
    have B_1 := n3_
    have W_3 := n4_
    have G_4 := n5_
    have N_0 := n6_
    have N_d := n7_
    clear n0_ n1_ n2_ n3_ n4_ n5_ n6_ n7_
    clear hb hbox hg
    refine hK.out _ _ ⟨(Y2 B_0.out 0).trans rfl, (Y2 B_0.out 1).trans rfl⟩ (fun hHeld => ?_)
    clear hK K
    refine nmA 6 ?_
    exact norm_ (by simp only [YB, Act.put, List.setIfInBounds_toArray, List.set_cons_zero, List.set_cons_succ]) (hCont (g_0) _ ⟨hHeld, (Kd.rU O_0.out), (bU B_0.out), (bU B_1.out), W_3.out, G_4.out, N_0.out, N_d.out, (hU HB.out)⟩)
   ·skip
    refine YY ?hg (N := 6) ?hd (cs := #[.int .i64 0, .int .i64 0, .int .i64 0, .int .i64 0, .int .i64 0, .int .i64 0, .int .i64 0]) (t := 28) ?hr ?_; (case hd => rfl); (case hg => rfl); (case hr => first | (go_simp; done) | (go_simp; rfl))
    intro g_0 hg w94 hbox hb
    have n0_ := Y0.mk (Kd.R_below (Kd.rU O_0.out) hb)
    have n1_ := Y0.mk (Y3 (bU B_0.out) hb)
    have n2_ := Y0.mk (Y5 (hU HB.out) hb)
    have n3_ := Y0.mk (hbox)
    have n4_ := gE hg HB
    have n5_ := gE hg HB
    have n6_ := gL hg B_0
    have n7_ := gG hg B_0
    clear O_0
    clear B_0
    clear HB
    have O_0 := n0_
    have B_0 := n1_
    have HB := n2_
    have B_1 := n3_
    have W_3 := n4_
    have G_4 := n5_
    have N_0 := n6_
    have N_d := n7_
    clear n0_ n1_ n2_ n3_ n4_ n5_ n6_ n7_
    clear hb hbox hg
    refine hK.out _ _ ⟨(Y2 B_0.out 0).trans rfl, (Y2 B_0.out 1).trans rfl⟩ (fun hHeld => ?_)
    clear hK K
    refine nmA 6 ?_
    refine one_ (i := 2) (N := some 73) (bs 11 135) rfl rfl (YH HT_.out (by kernel_rfl)) (by decide) (fun K hK => ?_)
    refine goes_ Try.func27 (by kernel_rfl) rfl #[.agg #[.int .i64 t_3, .slice Ao65 t_0.length co65], .int .i64 0, .agg #[.int .i64 t297, .int .i64 t298]] (by rfl) rfl rfl (by (try simp only [List.map_toArray, List.map_cons, List.map_nil]); first | done | (go_simp; done) | rfl | (simp only [List.length_drop, List.length_take]; rfl)) ?_
    with_reducible refine (YV.calls t_3 _ _ t_0 0 t297 t298 t_g t_h t_f t_e t_i t_d t_j true t307 _ ?side1 ?side2 A21.out).mono ?_
    (case side1 => repeat (first | exact (Kd.R_reads' O_0.out).2.2 | (with_reducible refine Kd.C_alloc ?_ _) | (with_reducible refine Kd.C_drewN ?_ _) | (with_reducible refine Kd.C_drew ?_)))
    (case side2 => exact (Kd.R_reads' O_0.out).2.1)
    rintro e w95 ⟨rfl, hb⟩
    refine ⟨_, rfl, ?_⟩
    replace O_0 := Y0.mk (Kd.R_below (Kd.rU O_0.out) hb)
    replace B_0 := Y0.mk (Y3 (bU B_0.out) hb)
    replace B_1 := Y0.mk (Y3 (bU B_1.out) hb)
    replace HB := Y0.mk (Y5 (hU HB.out) hb)
    (try clear hb)
    (try clear hb2)
    (try clear hk)
    (try clear hi)
    refine hK.out _ _ ⟨(Y2 B_0.out 0).trans rfl, (Y2 B_0.out 1).trans rfl⟩ (fun hHeld => ?_)
    clear hK K
    refine nmA 73 ?_
    refine puA 3 70 (bs 11 143) ?_
    refine puA 4 74 (bs 11 159) ?_
    refine puA 5 75 (bs 11 191) ?_
    refine puA 6 76 (bs 11 255) ?_
    exact norm_ (by simp only [YB, Act.put, List.setIfInBounds_toArray, List.set_cons_zero, List.set_cons_succ]) (hCont (g_0) _ ⟨hHeld, (Kd.rU O_0.out), (bU B_0.out), (bU B_1.out), W_3.out, G_4.out, N_0.out, N_d.out, (hU HB.out)⟩)
  ·skip
   refine YY ?hg (N := 6) ?hd (cs := #[.int .i64 0, .int .i64 0, .int .i64 0, .int .i64 0, .int .i64 0, .int .i64 0, .int .i64 0]) (t := 28) ?hr ?_; (case hd => rfl); (case hg => rfl); (case hr => first | (go_simp; done) | (go_simp; rfl))
   intro g_0 hg w93 hbox hb
   have n0_ := Y0.mk (Kd.R_below (Kd.rU O_0.out) hb)
   have n1_ := Y0.mk (Y3 (bU B_0.out) hb)
   have n2_ := Y0.mk (Y5 (hU HB.out) hb)
   have n3_ := Y0.mk (hbox)
   have n4_ := gE hg HB
   have n5_ := gE hg HB
   have n6_ := gL hg B_0
   have n7_ := gG hg B_0
   clear O_0
   clear B_0
   clear HB
   have O_0 := n0_
   have B_0 := n1_
   have HB := n2_
   have B_1 := n3_
   have W_3 := n4_
   have G_4 := n5_
   have N_0 := n6_
   have N_d := n7_
   clear n0_ n1_ n2_ n3_ n4_ n5_ n6_ n7_
   clear hb hbox hg
   refine hK.out _ _ ⟨(Y2 B_0.out 0).trans rfl, (Y2 B_0.out 1).trans rfl⟩ (fun hHeld => ?_)
   clear hK K
   refine nmA 6 ?_
   refine one_ (i := 1) (N := some 72) (bs 11 131) rfl rfl (YH HT_.out (by kernel_rfl)) (by decide) (fun K hK => ?_)
   refine goes_ Try.func51 (by kernel_rfl) rfl #[.int .i64 2, .int .i64 2] (by rfl) rfl rfl (by (try simp only [List.map_toArray, List.map_cons, List.map_nil]); first | done | (go_simp; done) | rfl | (simp only [List.length_drop, List.length_take]; rfl)) ?_
   with_reducible refine (Yb.calls 2 2 t297 t298 _ A20.out).mono ?_
   rintro e w94 ⟨rfl, hb⟩
   refine ⟨_, rfl, ?_⟩
   replace O_0 := Y0.mk (Kd.R_below (Kd.rU O_0.out) hb)
   replace B_0 := Y0.mk (Y3 (bU B_0.out) hb)
   replace B_1 := Y0.mk (Y3 (bU B_1.out) hb)
   replace HB := Y0.mk (Y5 (hU HB.out) hb)
   (try clear hb)
   (try clear hb2)
   (try clear hk)
   (try clear hi)
   refine hK.out _ _ ⟨(Y2 B_0.out 0).trans rfl, (Y2 B_0.out 1).trans rfl⟩ (fun hHeld => ?_)
   clear hK K
   refine nmA 72 ?_
   refine one_ (i := 2) (N := some 73) (bs 11 135) rfl rfl (YH HT_.out (by kernel_rfl)) (by decide) (fun K hK => ?_)
   refine goes_ Try.func27 (by kernel_rfl) rfl #[.agg #[.int .i64 t_3, .slice Ao65 t_0.length co65], .int .i64 0, .agg #[.int .i64 t297, .int .i64 t298]] (by rfl) rfl rfl (by (try simp only [List.map_toArray, List.map_cons, List.map_nil]); first | done | (go_simp; done) | rfl | (simp only [List.length_drop, List.length_take]; rfl)) ?_
   with_reducible refine (YV.calls t_3 _ _ t_0 0 t297 t298 t_g t_h t_f t_e t_i t_d t_j true t307 _ ?side1 ?side2 A21.out).mono ?_
   (case side1 => repeat (first | exact (Kd.R_reads' O_0.out).2.2 | (with_reducible refine Kd.C_alloc ?_ _) | (with_reducible refine Kd.C_drewN ?_ _) | (with_reducible refine Kd.C_drew ?_)))
   (case side2 => exact (Kd.R_reads' O_0.out).2.1)
   rintro e w95 ⟨rfl, hb⟩
   refine ⟨_, rfl, ?_⟩
   replace O_0 := Y0.mk (Kd.R_below (Kd.rU O_0.out) hb)
   replace B_0 := Y0.mk (Y3 (bU B_0.out) hb)
   replace B_1 := Y0.mk (Y3 (bU B_1.out) hb)
   replace HB := Y0.mk (Y5 (hU HB.out) hb)
   (try clear hb)
   (try clear hb2)
   (try clear hk)
   (try clear hi)
   refine hK.out _ _ ⟨(Y2 B_0.out 0).trans rfl, (Y2 B_0.out 1).trans rfl⟩ (fun hHeld => ?_)
   clear hK K
   refine nmA 73 ?_
   refine puA 3 70 (bs 11 143) ?_
   refine puA 4 74 (bs 11 159) ?_
   refine puA 5 75 (bs 11 191) ?_
   refine puA 6 76 (bs 11 255) ?_
   exact norm_ (by simp only [YB, Act.put, List.setIfInBounds_toArray, List.set_cons_zero, List.set_cons_succ]) (hCont (g_0) _ ⟨hHeld, (Kd.rU O_0.out), (bU B_0.out), (bU B_1.out), W_3.out, G_4.out, N_0.out, N_d.out, (hU HB.out)⟩)
 rintro g_0 w96 ⟨hS_, h0_, h1_, h2_, h3_, h4_, h5_, h6_, h7_⟩
 have n0_ : Y0 (Kd.R k30 30 w96 w.heap.size (fun _ => True) (.slice Ao65 t_0.length co65) t_0) := ⟨h0_⟩
 have n1_ : Y0 (w96.heap[g_1]? = some (.cells #[.int .i64 t_3, .slice Ao65 t_0.length co65] 24 (0, 0))) := ⟨h1_⟩
 have n2_ : Y0 (w96.heap[g_0]? = some (.cells #[.int .i64 0, .int .i64 0, .int .i64 0, .int .i64 0, .int .i64 0, .int .i64 0, .int .i64 0] 28 (0, 0))) := ⟨h2_⟩
 have n3_ : Y0 (w.heap.size ≤ g_0) := ⟨h3_⟩
 have n4_ : Y0 (w.heap.size ≤ g_0) := ⟨h4_⟩
 have n5_ : Y0 (g_1 ≠ g_0) := ⟨h5_⟩
 have n6_ : Y0 (g_0 ≠ g_1) := ⟨h6_⟩
 have n7_ : Y0 (Below w.heap.size w w96) := ⟨h7_⟩
 clear O_0
 clear B_0
 clear HB
 clear h0_ h1_ h2_ h3_ h4_ h5_ h6_ h7_
 have O_0 := n0_
 have B_0 := n1_
 have B_1 := n2_
 have W_3 := n3_
 have G_4 := n4_
 have N_0 := n5_
 have N_d := n6_
 have HB := n7_
 clear n0_ n1_ n2_ n3_ n4_ n5_ n6_ n7_
 have hHeld : w96.cell? ⟨g_1, 0, none⟩ = some (.int .i64 t_3) ∧ w96.cell? ⟨g_1, 1, none⟩ = some (.slice Ao65 t_0.length co65) := hS_
 refine norm_ (a' := ?_) ?_ ?_
 rotate_left
 ·simp only [YB, Act.put, List.setIfInBounds_toArray, List.set_cons_zero, List.set_cons_succ]
  rfl
 refine one_ (i := 8) (N := none) #[true, true, true, true, true, true, true, true, true, false, false] rfl rfl (YH HT_.out (by kernel_rfl)) (by decide) (fun K hK => ?_)
 have hs97 : w96.cell? ⟨g_0, 0, none⟩ = some (.int .i64 0) := (Y2 B_1.out 0).trans rfl
 have hfs97 := Y4 B_1.out 0
 have hns97_0 := N_0.out
 have hms97_0 := N_d.out
 have hs98 : w96.cell? ⟨g_0, 1, none⟩ = some (.int .i64 0) := (Y2 B_1.out 1).trans rfl
 have hfs98 := Y4 B_1.out 1
 have hns98_0 := N_0.out
 have hms98_0 := N_d.out
 have hs99 : w96.cell? ⟨g_0, 2, none⟩ = some (.int .i64 0) := (Y2 B_1.out 2).trans rfl
 have hfs99 := Y4 B_1.out 2
 have hns99_0 := N_0.out
 have hms99_0 := N_d.out
 have hs100 : w96.cell? ⟨g_0, 3, none⟩ = some (.int .i64 0) := (Y2 B_1.out 3).trans rfl
 have hfs100 := Y4 B_1.out 3
 have hns100_0 := N_0.out
 have hms100_0 := N_d.out
 have hs101 : w96.cell? ⟨g_0, 4, none⟩ = some (.int .i64 0) := (Y2 B_1.out 4).trans rfl
 have hfs101 := Y4 B_1.out 4
 have hns101_0 := N_0.out
 have hms101_0 := N_d.out
 have hs102 : w96.cell? ⟨g_0, 5, none⟩ = some (.int .i64 0) := (Y2 B_1.out 5).trans rfl
 have hfs102 := Y4 B_1.out 5
 have hns102_0 := N_0.out
 have hms102_0 := N_d.out
 have hs103 : w96.cell? ⟨g_0, 6, none⟩ = some (.int .i64 0) := (Y2 B_1.out 6).trans rfl
 have hfs103 := Y4 B_1.out 6
 have hns103_0 := N_0.out
 have hms103_0 := N_d.out
 refine skip_ (w1 := ?_) (by rfl) rfl ?_ ?_
 rotate_left
 ·go_simp
  rfl
 refine hK.out _ _ ⟨(cf7 (g := g_0) N_0.out (hHeld.1)), (cf7 (g := g_0) N_0.out (hHeld.2))⟩ (fun hHeld => ?_)
 clear hK K
 refine puA 9 7 (bs 11 1023) ?_
 refine puA 10 4 (bs 11 2047) ?_
 refine done_ (Y17 HT_.out (by kernel_rfl)) ?_
 try go_wp2
 have n0_ : Y0 (Kd.R k30 30 (((((((w96.setCell ⟨g_0, 0, none⟩ (.int .i64 t_g)).setCell ⟨g_0, 1, none⟩ (.int .i64 t_h)).setCell ⟨g_0, 2, none⟩ (.int .i64 t_f)).setCell ⟨g_0, 3, none⟩ (.int .i64 t_e)).setCell ⟨g_0, 4, none⟩ (.int .i64 t_i)).setCell ⟨g_0, 5, none⟩ (.int .i64 t_d)).setCell ⟨g_0, 6, none⟩ (.int .i64 t_j)) w.heap.size (fun _ => True) (.slice Ao65 t_0.length co65) t_0) := ⟨by (with_reducible repeat (first | apply Kd.R_alloc | apply Kd.R_drewN | apply Kd.R_drew)); exact Kd.R_mono (rf7 (g := g_0) (Kd.R_types O_0.out B_1.out (by decide)) (fun _ hk => hk.2)) (fun _ hk => trivial)⟩
 have n1_ : Y0 ((((((((w96.setCell ⟨g_0, 0, none⟩ (.int .i64 t_g)).setCell ⟨g_0, 1, none⟩ (.int .i64 t_h)).setCell ⟨g_0, 2, none⟩ (.int .i64 t_f)).setCell ⟨g_0, 3, none⟩ (.int .i64 t_e)).setCell ⟨g_0, 4, none⟩ (.int .i64 t_i)).setCell ⟨g_0, 5, none⟩ (.int .i64 t_d)).setCell ⟨g_0, 6, none⟩ (.int .i64 t_j)).heap[g_1]? = some (.cells #[.int .i64 t_3, .slice Ao65 t_0.length co65] 24 (0, 0))) := ⟨by (with_reducible repeat (first | refine Y8 ?_ _ | refine Y7 ?_ | refine Y6 ?_ _)); refine (Below.heap_setCell _ ⟨_, _, none⟩ _ _ N_0.out).trans ?_; (with_reducible repeat (first | refine Y8 ?_ _ | refine Y7 ?_ | refine Y6 ?_ _)); refine (Below.heap_setCell _ ⟨_, _, none⟩ _ _ N_0.out).trans ?_; (with_reducible repeat (first | refine Y8 ?_ _ | refine Y7 ?_ | refine Y6 ?_ _)); refine (Below.heap_setCell _ ⟨_, _, none⟩ _ _ N_0.out).trans ?_; (with_reducible repeat (first | refine Y8 ?_ _ | refine Y7 ?_ | refine Y6 ?_ _)); refine (Below.heap_setCell _ ⟨_, _, none⟩ _ _ N_0.out).trans ?_; (with_reducible repeat (first | refine Y8 ?_ _ | refine Y7 ?_ | refine Y6 ?_ _)); refine (Below.heap_setCell _ ⟨_, _, none⟩ _ _ N_0.out).trans ?_; (with_reducible repeat (first | refine Y8 ?_ _ | refine Y7 ?_ | refine Y6 ?_ _)); refine (Below.heap_setCell _ ⟨_, _, none⟩ _ _ N_0.out).trans ?_; (with_reducible repeat (first | refine Y8 ?_ _ | refine Y7 ?_ | refine Y6 ?_ _)); refine (Below.heap_setCell _ ⟨_, _, none⟩ _ _ N_0.out).trans ?_; (with_reducible repeat (first | refine Y8 ?_ _ | refine Y7 ?_ | refine Y6 ?_ _)); exact B_0.out⟩
 have n2_ : Y0 ((((((((w96.setCell ⟨g_0, 0, none⟩ (.int .i64 t_g)).setCell ⟨g_0, 1, none⟩ (.int .i64 t_h)).setCell ⟨g_0, 2, none⟩ (.int .i64 t_f)).setCell ⟨g_0, 3, none⟩ (.int .i64 t_e)).setCell ⟨g_0, 4, none⟩ (.int .i64 t_i)).setCell ⟨g_0, 5, none⟩ (.int .i64 t_d)).setCell ⟨g_0, 6, none⟩ (.int .i64 t_j)).heap[g_0]? = some (.cells #[.int .i64 t_g, .int .i64 t_h, .int .i64 t_f, .int .i64 t_e, .int .i64 t_i, .int .i64 t_d, .int .i64 t_j] 28 (0, 0))) := ⟨by (with_reducible repeat (first | refine Y8 ?_ _ | refine Y7 ?_ | refine Y6 ?_ _)); refine Yn (cs := #[.int .i64 t_g, .int .i64 t_h, .int .i64 t_f, .int .i64 t_e, .int .i64 t_i, .int .i64 t_d, .int .i64 0]) ?_ 6 _ rfl; (with_reducible repeat (first | refine Y8 ?_ _ | refine Y7 ?_ | refine Y6 ?_ _)); refine Yn (cs := #[.int .i64 t_g, .int .i64 t_h, .int .i64 t_f, .int .i64 t_e, .int .i64 t_i, .int .i64 0, .int .i64 0]) ?_ 5 _ rfl; (with_reducible repeat (first | refine Y8 ?_ _ | refine Y7 ?_ | refine Y6 ?_ _)); refine Yn (cs := #[.int .i64 t_g, .int .i64 t_h, .int .i64 t_f, .int .i64 t_e, .int .i64 0, .int .i64 0, .int .i64 0]) ?_ 4 _ rfl; (with_reducible repeat (first | refine Y8 ?_ _ | refine Y7 ?_ | refine Y6 ?_ _)); refine Yn (cs := #[.int .i64 t_g, .int .i64 t_h, .int .i64 t_f, .int .i64 0, .int .i64 0, .int .i64 0, .int .i64 0]) ?_ 3 _ rfl; (with_reducible repeat (first | refine Y8 ?_ _ | refine Y7 ?_ | refine Y6 ?_ _)); refine Yn (cs := #[.int .i64 t_g, .int .i64 t_h, .int .i64 0, .int .i64 0, .int .i64 0, .int .i64 0, .int .i64 0]) ?_ 2 _ rfl; (with_reducible repeat (first | refine Y8 ?_ _ | refine Y7 ?_ | refine Y6 ?_ _)); refine Yn (cs := #[.int .i64 t_g, .int .i64 0, .int .i64 0, .int .i64 0, .int .i64 0, .int .i64 0, .int .i64 0]) ?_ 1 _ rfl; (with_reducible repeat (first | refine Y8 ?_ _ | refine Y7 ?_ | refine Y6 ?_ _)); refine Yn (cs := #[.int .i64 0, .int .i64 0, .int .i64 0, .int .i64 0, .int .i64 0, .int .i64 0, .int .i64 0]) ?_ 0 _ rfl; (with_reducible repeat (first | refine Y8 ?_ _ | refine Y7 ?_ | refine Y6 ?_ _)); exact B_1.out⟩
 have n3_ : Y0 (Below w.heap.size w (((((((w96.setCell ⟨g_0, 0, none⟩ (.int .i64 t_g)).setCell ⟨g_0, 1, none⟩ (.int .i64 t_h)).setCell ⟨g_0, 2, none⟩ (.int .i64 t_f)).setCell ⟨g_0, 3, none⟩ (.int .i64 t_e)).setCell ⟨g_0, 4, none⟩ (.int .i64 t_i)).setCell ⟨g_0, 5, none⟩ (.int .i64 t_d)).setCell ⟨g_0, 6, none⟩ (.int .i64 t_j))) := ⟨hU HB.out⟩
 (try clear O_0)
 (try clear B_0)
 (try clear B_1)
 (try clear HB)
 generalize (((((((w96.setCell ⟨g_0, 0, none⟩ (.int .i64 t_g)).setCell ⟨g_0, 1, none⟩ (.int .i64 t_h)).setCell ⟨g_0, 2, none⟩ (.int .i64 t_f)).setCell ⟨g_0, 3, none⟩ (.int .i64 t_e)).setCell ⟨g_0, 4, none⟩ (.int .i64 t_i)).setCell ⟨g_0, 5, none⟩ (.int .i64 t_d)).setCell ⟨g_0, 6, none⟩ (.int .i64 t_j)) = w104 at n0_ n1_ n2_ n3_ ⊢
 have O_0 := n0_
 have B_0 := n1_
 have B_1 := n2_
 have HB := n3_
 clear n0_ n1_ n2_ n3_
 have n0_ := Y0.mk (Kd.R_drew O_0.out)
 have n1_ := Y0.mk (Y7 B_0.out)
 have n2_ := Y0.mk (Y7 B_1.out)
 have n3_ := Y0.mk (Yv HB.out)
 clear O_0
 clear B_0
 clear B_1
 clear HB
 have O_0 := n0_
 have B_0 := n1_
 have B_1 := n2_
 have HB := n3_
 clear n0_ n1_ n2_ n3_
 refine Y19 (n := 11) (S := fun w' => w'.cell? ⟨g_1, 0, none⟩ = some (.int .i64 t_3) ∧ w'.cell? ⟨g_1, 1, none⟩ = some (.slice Ao65 t_0.length co65)) (ds := []) #[false, false, false, false, false, false, false, false, false, false, false] (by kernel_rfl) rfl rfl ⟨(Y2 B_0.out 0).trans rfl, (Y2 B_0.out 1).trans rfl⟩ (fun hHeld => ?_); refine YO Ya.tab10 Ya.bits10 (fun HT_ HW_ => ?_)
 generalize w104.drew = w105 at O_0 B_0 B_1 HB hHeld ⊢
 refine tkA 0 78 (bs 11 1) hHeld ?_
 refine join_ (σ := Nat) 3 #[true, true, true, true, true, true, true, true, false, false, false] (fun s_ => [(79, .agg #[.int .i64 t309, .int .i64 t310]), (80, .tuple #[.agg #[.int .i64 t_k, .int .i64 t_l, .int .i64 t_m, .int .i64 t_n, .int .i64 t_q, .int .i64 t_s, .int .i64 t_v], .bool t318, .int .i64 t319]), (8, .pointer (some ⟨s_, 0, none⟩)), (77, .tuple #[.agg #[.int .i64 t_k, .int .i64 t_l, .int .i64 t_m, .int .i64 t_n, .int .i64 t_q, .int .i64 t_s, .int .i64 t_v], .bool t318, .int .i64 t319]), (81, .agg #[.int .i64 t_k, .int .i64 t_l, .int .i64 t_m, .int .i64 t_n, .int .i64 t_q, .int .i64 t_s, .int .i64 t_v]), (82, .bool t318), (83, .int .i64 t319)]) (fun s_ w' => (w'.cell? ⟨g_1, 0, none⟩ = some (.int .i64 t_3) ∧ w'.cell? ⟨g_1, 1, none⟩ = some (.slice Ao65 t_0.length co65)) ∧ (Kd.R k30 30 w' w.heap.size (fun _ => True) (.slice Ao65 t_0.length co65) t_0) ∧ (w'.heap[g_1]? = some (.cells #[.int .i64 t_3, .slice Ao65 t_0.length co65] 24 (0, 0))) ∧ (w'.heap[g_0]? = some (.cells #[.int .i64 t_g, .int .i64 t_h, .int .i64 t_f, .int .i64 t_e, .int .i64 t_i, .int .i64 t_d, .int .i64 t_j] 28 (0, 0))) ∧ (w'.heap[s_]? = some (.cells #[.int .i64 0, .int .i64 0, .int .i64 0, .int .i64 0, .int .i64 0, .int .i64 0, .int .i64 0] 28 (0, 0))) ∧ (w.heap.size ≤ s_) ∧ (w.heap.size ≤ s_) ∧ (g_1 ≠ s_) ∧ (s_ ≠ g_1) ∧ (g_0 ≠ s_) ∧ (s_ ≠ g_0) ∧ (Below w.heap.size w w')) ?_ ?_
 rotate_left
 ·intro hCont
  refine two_ (i := 1) (j := 7) (Ni := some 79) (Nj := some 8) #[true, true, false, false, false, false, false, false, false, false, false] #[true, false, false, false, false, false, false, true, false, false, false] rfl rfl rfl rfl (Y1w HT_.out (by kernel_rfl)) (by decide) (by decide) (fun K hK => ?_) (fun K hK => ?_)
  ·skip
   refine goes_ Try.func51 (by kernel_rfl) rfl #[.int .i64 1, .int .i64 1] (by rfl) rfl rfl (by (try simp only [List.map_toArray, List.map_cons, List.map_nil]); first | done | (go_simp; done) | rfl | (simp only [List.length_drop, List.length_take]; rfl)) ?_
   with_reducible refine (Yb.calls 1 1 t309 t310 _ A22.out).mono ?_
   rintro e w106 ⟨rfl, hb⟩
   refine ⟨_, rfl, ?_⟩
   replace O_0 := Y0.mk (Kd.R_below (Kd.rU O_0.out) hb)
   replace B_0 := Y0.mk (Y3 (bU B_0.out) hb)
   replace B_1 := Y0.mk (Y3 (bU B_1.out) hb)
   replace HB := Y0.mk (Y5 (hU HB.out) hb)
   (try clear hb)
   (try clear hb2)
   (try clear hk)
   (try clear hi)
   refine hK.out _ _ ⟨(Y2 B_0.out 0).trans rfl, (Y2 B_0.out 1).trans rfl⟩ (fun hHeld => ?_)
   clear hK K
   refine nmA 79 ?_
   refine two_ (i := 2) (j := 7) (Ni := some 80) (Nj := some 8) #[true, true, true, false, false, false, false, false, false, false, false] #[true, true, false, false, false, false, false, true, false, false, false] rfl rfl rfl rfl (Y1w HT_.out (by kernel_rfl)) (by decide) (by decide) (fun K hK => ?_) (fun K hK => ?_)
   ·skip
    refine goes_ Try.func27 (by kernel_rfl) rfl #[.agg #[.int .i64 t_3, .slice Ao65 t_0.length co65], .int .i64 1, .agg #[.int .i64 t309, .int .i64 t310]] (by rfl) rfl rfl (by (try simp only [List.map_toArray, List.map_cons, List.map_nil]); first | done | (go_simp; done) | rfl | (simp only [List.length_drop, List.length_take]; rfl)) ?_
    with_reducible refine (YV.calls t_3 _ _ t_0 1 t309 t310 t_k t_l t_m t_n t_q t_s t_v t318 t319 _ ?side1 ?side2 A23.out).mono ?_
    (case side1 => repeat (first | exact (Kd.R_reads' O_0.out).2.2 | (with_reducible refine Kd.C_alloc ?_ _) | (with_reducible refine Kd.C_drewN ?_ _) | (with_reducible refine Kd.C_drew ?_)))
    (case side2 => exact (Kd.R_reads' O_0.out).2.1)
    rintro e w107 ⟨rfl, hb⟩
    refine ⟨_, rfl, ?_⟩
    replace O_0 := Y0.mk (Kd.R_below (Kd.rU O_0.out) hb)
    replace B_0 := Y0.mk (Y3 (bU B_0.out) hb)
    replace B_1 := Y0.mk (Y3 (bU B_1.out) hb)
    replace HB := Y0.mk (Y5 (hU HB.out) hb)
    (try clear hb)
    (try clear hb2)
    (try clear hk)
    (try clear hi)
    refine hK.out _ _ ⟨(Y2 B_0.out 0).trans rfl, (Y2 B_0.out 1).trans rfl⟩ (fun hHeld => ?_)
    clear hK K
    refine nmA 80 ?_
    refine puA 3 77 (bs 11 15) ?_
    refine puA 4 81 (bs 11 31) ?_
    refine puA 5 82 (bs 11 63) ?_
    refine puA 6 83 (bs 11 127) ?_
    refine one_ (i := 7) (N := some 8) (bs 11 255) rfl rfl (YH HT_.out (by kernel_rfl)) (by decide) (fun K hK => ?_)
    refine YY ?hg (N := 8) ?hd (cs := #[.int .i64 0, .int .i64 0, .int .i64 0, .int .i64 0, .int .i64 0, .int .i64 0, .int .i64 0]) (t := 28) ?hr ?_; (case hd => rfl); (case hg => rfl); (case hr => first | (go_simp; done) | (go_simp; rfl))
    intro g_5 hg w108 hbox hb
    have n0_ := Y0.mk (Kd.R_below (Kd.rU O_0.out) hb)
    have n1_ := Y0.mk (Y3 (bU B_0.out) hb)
    have n2_ := Y0.mk (Y3 (bU B_1.out) hb)
    have n3_ := Y0.mk (Y5 (hU HB.out) hb)
    have n4_ := Y0.mk (hbox)
    have n5_ := gE hg HB
    have n6_ := gE hg HB
    have n7_ := gL hg B_0
    have n8_ := gG hg B_0
    have n9_ := gL hg B_1
    have n10_ := gG hg B_1
    clear O_0
    clear B_0
    clear B_1
    clear HB
    have O_0 := n0_
    have B_0 := n1_
    have B_1 := n2_
    have HB := n3_
    have B_5 := n4_
    have W_4 := n5_
    have G_3 := n6_
    have N_2 := n7_
    have N_h := n8_
    have N_c := n9_
    have N_g := n10_
    clear n0_ n1_ n2_ n3_ n4_ n5_ n6_ n7_ n8_ n9_ n10_
    clear hb hbox hg
    refine hK.out _ _ ⟨(Y2 B_0.out 0).trans rfl, (Y2 B_0.out 1).trans rfl⟩ (fun hHeld => ?_)
    clear hK K
    refine nmA 8 ?_
    exact norm_ (by simp only [YB, Act.put, List.setIfInBounds_toArray, List.set_cons_zero, List.set_cons_succ]) (hCont (g_5) _ ⟨hHeld, (Kd.rU O_0.out), (bU B_0.out), (bU B_1.out), (bU B_5.out), W_4.out, G_3.out, N_2.out, N_h.out, N_c.out, N_g.out, (hU HB.out)⟩)
   ·skip
    refine YY ?hg (N := 8) ?hd (cs := #[.int .i64 0, .int .i64 0, .int .i64 0, .int .i64 0, .int .i64 0, .int .i64 0, .int .i64 0]) (t := 28) ?hr ?_; (case hd => rfl); (case hg => rfl); (case hr => first | (go_simp; done) | (go_simp; rfl))
    intro g_5 hg w107 hbox hb
    have n0_ := Y0.mk (Kd.R_below (Kd.rU O_0.out) hb)
    have n1_ := Y0.mk (Y3 (bU B_0.out) hb)
    have n2_ := Y0.mk (Y3 (bU B_1.out) hb)
    have n3_ := Y0.mk (Y5 (hU HB.out) hb)
    have n4_ := Y0.mk (hbox)
    have n5_ := gE hg HB
    have n6_ := gE hg HB
    have n7_ := gL hg B_0
    have n8_ := gG hg B_0
    have n9_ := gL hg B_1
    have n10_ := gG hg B_1
    clear O_0
    clear B_0
    clear B_1
    clear HB
    have O_0 := n0_
    have B_0 := n1_
    have B_1 := n2_
    have HB := n3_
    have B_5 := n4_
    have W_4 := n5_
    have G_3 := n6_
    have N_2 := n7_
    have N_h := n8_
    have N_c := n9_
    have N_g := n10_
    clear n0_ n1_ n2_ n3_ n4_ n5_ n6_ n7_ n8_ n9_ n10_
    clear hb hbox hg
    refine hK.out _ _ ⟨(Y2 B_0.out 0).trans rfl, (Y2 B_0.out 1).trans rfl⟩ (fun hHeld => ?_)
    clear hK K
    refine nmA 8 ?_
    refine one_ (i := 2) (N := some 80) (bs 11 135) rfl rfl (YH HT_.out (by kernel_rfl)) (by decide) (fun K hK => ?_)
    refine goes_ Try.func27 (by kernel_rfl) rfl #[.agg #[.int .i64 t_3, .slice Ao65 t_0.length co65], .int .i64 1, .agg #[.int .i64 t309, .int .i64 t310]] (by rfl) rfl rfl (by (try simp only [List.map_toArray, List.map_cons, List.map_nil]); first | done | (go_simp; done) | rfl | (simp only [List.length_drop, List.length_take]; rfl)) ?_
    with_reducible refine (YV.calls t_3 _ _ t_0 1 t309 t310 t_k t_l t_m t_n t_q t_s t_v t318 t319 _ ?side1 ?side2 A23.out).mono ?_
    (case side1 => repeat (first | exact (Kd.R_reads' O_0.out).2.2 | (with_reducible refine Kd.C_alloc ?_ _) | (with_reducible refine Kd.C_drewN ?_ _) | (with_reducible refine Kd.C_drew ?_)))
    (case side2 => exact (Kd.R_reads' O_0.out).2.1)
    rintro e w108 ⟨rfl, hb⟩
    refine ⟨_, rfl, ?_⟩
    replace O_0 := Y0.mk (Kd.R_below (Kd.rU O_0.out) hb)
    replace B_0 := Y0.mk (Y3 (bU B_0.out) hb)
    replace B_1 := Y0.mk (Y3 (bU B_1.out) hb)
    replace B_5 := Y0.mk (Y3 (bU B_5.out) hb)
    replace HB := Y0.mk (Y5 (hU HB.out) hb)
    (try clear hb)
    (try clear hb2)
    (try clear hk)
    (try clear hi)
    refine hK.out _ _ ⟨(Y2 B_0.out 0).trans rfl, (Y2 B_0.out 1).trans rfl⟩ (fun hHeld => ?_)
    clear hK K
    refine nmA 80 ?_
    refine puA 3 77 (bs 11 143) ?_
    refine puA 4 81 (bs 11 159) ?_
    refine puA 5 82 (bs 11 191) ?_
    refine puA 6 83 (bs 11 255) ?_
    exact norm_ (by simp only [YB, Act.put, List.setIfInBounds_toArray, List.set_cons_zero, List.set_cons_succ]) (hCont (g_5) _ ⟨hHeld, (Kd.rU O_0.out), (bU B_0.out), (bU B_1.out), (bU B_5.out), W_4.out, G_3.out, N_2.out, N_h.out, N_c.out, N_g.out, (hU HB.out)⟩)
  ·skip
   refine YY ?hg (N := 8) ?hd (cs := #[.int .i64 0, .int .i64 0, .int .i64 0, .int .i64 0, .int .i64 0, .int .i64 0, .int .i64 0]) (t := 28) ?hr ?_; (case hd => rfl); (case hg => rfl); (case hr => first | (go_simp; done) | (go_simp; rfl))
   intro g_5 hg w106 hbox hb
   have n0_ := Y0.mk (Kd.R_below (Kd.rU O_0.out) hb)
   have n1_ := Y0.mk (Y3 (bU B_0.out) hb)
   have n2_ := Y0.mk (Y3 (bU B_1.out) hb)
   have n3_ := Y0.mk (Y5 (hU HB.out) hb)
   have n4_ := Y0.mk (hbox)
   have n5_ := gE hg HB
   have n6_ := gE hg HB
   have n7_ := gL hg B_0
   have n8_ := gG hg B_0
   have n9_ := gL hg B_1
   have n10_ := gG hg B_1
   clear O_0
   clear B_0
   clear B_1
   clear HB
   have O_0 := n0_
   have B_0 := n1_
   have B_1 := n2_
   have HB := n3_
   have B_5 := n4_
   have W_4 := n5_
   have G_3 := n6_
   have N_2 := n7_
   have N_h := n8_
   have N_c := n9_
   have N_g := n10_
   clear n0_ n1_ n2_ n3_ n4_ n5_ n6_ n7_ n8_ n9_ n10_
   clear hb hbox hg
   refine hK.out _ _ ⟨(Y2 B_0.out 0).trans rfl, (Y2 B_0.out 1).trans rfl⟩ (fun hHeld => ?_)
   clear hK K
   refine nmA 8 ?_
   refine one_ (i := 1) (N := some 79) (bs 11 131) rfl rfl (YH HT_.out (by kernel_rfl)) (by decide) (fun K hK => ?_)
   refine goes_ Try.func51 (by kernel_rfl) rfl #[.int .i64 1, .int .i64 1] (by rfl) rfl rfl (by (try simp only [List.map_toArray, List.map_cons, List.map_nil]); first | done | (go_simp; done) | rfl | (simp only [List.length_drop, List.length_take]; rfl)) ?_
   with_reducible refine (Yb.calls 1 1 t309 t310 _ A22.out).mono ?_
   rintro e w107 ⟨rfl, hb⟩
   refine ⟨_, rfl, ?_⟩
   replace O_0 := Y0.mk (Kd.R_below (Kd.rU O_0.out) hb)
   replace B_0 := Y0.mk (Y3 (bU B_0.out) hb)
   replace B_1 := Y0.mk (Y3 (bU B_1.out) hb)
   replace B_5 := Y0.mk (Y3 (bU B_5.out) hb)
   replace HB := Y0.mk (Y5 (hU HB.out) hb)
   (try clear hb)
   (try clear hb2)
   (try clear hk)
   (try clear hi)
   refine hK.out _ _ ⟨(Y2 B_0.out 0).trans rfl, (Y2 B_0.out 1).trans rfl⟩ (fun hHeld => ?_)
   clear hK K
   refine nmA 79 ?_
   refine one_ (i := 2) (N := some 80) (bs 11 135) rfl rfl (YH HT_.out (by kernel_rfl)) (by decide) (fun K hK => ?_)
   refine goes_ Try.func27 (by kernel_rfl) rfl #[.agg #[.int .i64 t_3, .slice Ao65 t_0.length co65], .int .i64 1, .agg #[.int .i64 t309, .int .i64 t310]] (by rfl) rfl rfl (by (try simp only [List.map_toArray, List.map_cons, List.map_nil]); first | done | (go_simp; done) | rfl | (simp only [List.length_drop, List.length_take]; rfl)) ?_
   with_reducible refine (YV.calls t_3 _ _ t_0 1 t309 t310 t_k t_l t_m t_n t_q t_s t_v t318 t319 _ ?side1 ?side2 A23.out).mono ?_
   (case side1 => repeat (first | exact (Kd.R_reads' O_0.out).2.2 | (with_reducible refine Kd.C_alloc ?_ _) | (with_reducible refine Kd.C_drewN ?_ _) | (with_reducible refine Kd.C_drew ?_)))
   (case side2 => exact (Kd.R_reads' O_0.out).2.1)
   rintro e w108 ⟨rfl, hb⟩
   refine ⟨_, rfl, ?_⟩
   replace O_0 := Y0.mk (Kd.R_below (Kd.rU O_0.out) hb)
   replace B_0 := Y0.mk (Y3 (bU B_0.out) hb)
   replace B_1 := Y0.mk (Y3 (bU B_1.out) hb)
   replace B_5 := Y0.mk (Y3 (bU B_5.out) hb)
   replace HB := Y0.mk (Y5 (hU HB.out) hb)
   (try clear hb)
   (try clear hb2)
   (try clear hk)
   (try clear hi)
   refine hK.out _ _ ⟨(Y2 B_0.out 0).trans rfl, (Y2 B_0.out 1).trans rfl⟩ (fun hHeld => ?_)
   clear hK K
   refine nmA 80 ?_
   refine puA 3 77 (bs 11 143) ?_
   refine puA 4 81 (bs 11 159) ?_
   refine puA 5 82 (bs 11 191) ?_
   refine puA 6 83 (bs 11 255) ?_
   exact norm_ (by simp only [YB, Act.put, List.setIfInBounds_toArray, List.set_cons_zero, List.set_cons_succ]) (hCont (g_5) _ ⟨hHeld, (Kd.rU O_0.out), (bU B_0.out), (bU B_1.out), (bU B_5.out), W_4.out, G_3.out, N_2.out, N_h.out, N_c.out, N_g.out, (hU HB.out)⟩)
 rintro g_5 w109 ⟨hS_, h0_, h1_, h2_, h3_, h4_, h5_, h6_, h7_, h8_, h9_, h10_⟩
 have n0_ : Y0 (Kd.R k30 30 w109 w.heap.size (fun _ => True) (.slice Ao65 t_0.length co65) t_0) := ⟨h0_⟩
 have n1_ : Y0 (w109.heap[g_1]? = some (.cells #[.int .i64 t_3, .slice Ao65 t_0.length co65] 24 (0, 0))) := ⟨h1_⟩
 have n2_ : Y0 (w109.heap[g_0]? = some (.cells #[.int .i64 t_g, .int .i64 t_h, .int .i64 t_f, .int .i64 t_e, .int .i64 t_i, .int .i64 t_d, .int .i64 t_j] 28 (0, 0))) := ⟨h2_⟩
 have n3_ : Y0 (w109.heap[g_5]? = some (.cells #[.int .i64 0, .int .i64 0, .int .i64 0, .int .i64 0, .int .i64 0, .int .i64 0, .int .i64 0] 28 (0, 0))) := ⟨h3_⟩
 have n4_ : Y0 (w.heap.size ≤ g_5) := ⟨h4_⟩
 have n5_ : Y0 (w.heap.size ≤ g_5) := ⟨h5_⟩
 have n6_ : Y0 (g_1 ≠ g_5) := ⟨h6_⟩
 have n7_ : Y0 (g_5 ≠ g_1) := ⟨h7_⟩
 have n8_ : Y0 (g_0 ≠ g_5) := ⟨h8_⟩
 have n9_ : Y0 (g_5 ≠ g_0) := ⟨h9_⟩
 have n10_ : Y0 (Below w.heap.size w w109) := ⟨h10_⟩
 clear O_0
 clear B_0
 clear B_1
 clear HB
 clear h0_ h1_ h2_ h3_ h4_ h5_ h6_ h7_ h8_ h9_ h10_
 have O_0 := n0_
 have B_0 := n1_
 have B_1 := n2_
 have B_5 := n3_
 have W_4 := n4_
 have G_3 := n5_
 have N_2 := n6_
 have N_h := n7_
 have N_c := n8_
 have N_g := n9_
 have HB := n10_
 clear n0_ n1_ n2_ n3_ n4_ n5_ n6_ n7_ n8_ n9_ n10_
 have hHeld : w109.cell? ⟨g_1, 0, none⟩ = some (.int .i64 t_3) ∧ w109.cell? ⟨g_1, 1, none⟩ = some (.slice Ao65 t_0.length co65) := hS_
 refine norm_ (a' := ?_) ?_ ?_
 rotate_left
 ·simp only [YB, Act.put, List.setIfInBounds_toArray, List.set_cons_zero, List.set_cons_succ]
  rfl
 refine one_ (i := 8) (N := none) #[true, true, true, true, true, true, true, true, true, false, false] rfl rfl (YH HT_.out (by kernel_rfl)) (by decide) (fun K hK => ?_)
 have hs110 : w109.cell? ⟨g_5, 0, none⟩ = some (.int .i64 0) := (Y2 B_5.out 0).trans rfl
 have hfs110 := Y4 B_5.out 0
 have hns110_0 := N_2.out
 have hns110_1 := N_c.out
 have hms110_0 := N_h.out
 have hms110_1 := N_g.out
 have hs111 : w109.cell? ⟨g_5, 1, none⟩ = some (.int .i64 0) := (Y2 B_5.out 1).trans rfl
 have hfs111 := Y4 B_5.out 1
 have hns111_0 := N_2.out
 have hns111_1 := N_c.out
 have hms111_0 := N_h.out
 have hms111_1 := N_g.out
 have hs112 : w109.cell? ⟨g_5, 2, none⟩ = some (.int .i64 0) := (Y2 B_5.out 2).trans rfl
 have hfs112 := Y4 B_5.out 2
 have hns112_0 := N_2.out
 have hns112_1 := N_c.out
 have hms112_0 := N_h.out
 have hms112_1 := N_g.out
 have hs113 : w109.cell? ⟨g_5, 3, none⟩ = some (.int .i64 0) := (Y2 B_5.out 3).trans rfl
 have hfs113 := Y4 B_5.out 3
 have hns113_0 := N_2.out
 have hns113_1 := N_c.out
 have hms113_0 := N_h.out
 have hms113_1 := N_g.out
 have hs114 : w109.cell? ⟨g_5, 4, none⟩ = some (.int .i64 0) := (Y2 B_5.out 4).trans rfl
 have hfs114 := Y4 B_5.out 4
 have hns114_0 := N_2.out
 have hns114_1 := N_c.out
 have hms114_0 := N_h.out
 have hms114_1 := N_g.out
 have hs115 : w109.cell? ⟨g_5, 5, none⟩ = some (.int .i64 0) := (Y2 B_5.out 5).trans rfl
 have hfs115 := Y4 B_5.out 5
 have hns115_0 := N_2.out
 have hns115_1 := N_c.out
 have hms115_0 := N_h.out
 have hms115_1 := N_g.out
 have hs116 : w109.cell? ⟨g_5, 6, none⟩ = some (.int .i64 0) := (Y2 B_5.out 6).trans rfl
 have hfs116 := Y4 B_5.out 6
 have hns116_0 := N_2.out
 have hns116_1 := N_c.out
 have hms116_0 := N_h.out
 have hms116_1 := N_g.out
 refine skip_ (w1 := ?_) (by rfl) rfl ?_ ?_
 rotate_left
 ·go_simp
  rfl
 refine hK.out _ _ ⟨(cf7 (g := g_5) N_2.out (hHeld.1)), (cf7 (g := g_5) N_2.out (hHeld.2))⟩ (fun hHeld => ?_)
 clear hK K
 refine puA 9 9 (bs 11 1023) ?_
 refine puA 10 10 (bs 11 2047) ?_
 refine done_ (Y17 HT_.out (by kernel_rfl)) ?_
 try go_wp2
 have n0_ : Y0 (Kd.R k30 30 (((((((w109.setCell ⟨g_5, 0, none⟩ (.int .i64 t_k)).setCell ⟨g_5, 1, none⟩ (.int .i64 t_l)).setCell ⟨g_5, 2, none⟩ (.int .i64 t_m)).setCell ⟨g_5, 3, none⟩ (.int .i64 t_n)).setCell ⟨g_5, 4, none⟩ (.int .i64 t_q)).setCell ⟨g_5, 5, none⟩ (.int .i64 t_s)).setCell ⟨g_5, 6, none⟩ (.int .i64 t_v)) w.heap.size (fun _ => True) (.slice Ao65 t_0.length co65) t_0) := ⟨by (with_reducible repeat (first | apply Kd.R_alloc | apply Kd.R_drewN | apply Kd.R_drew)); exact Kd.R_mono (rf7 (g := g_5) (Kd.R_types O_0.out B_5.out (by decide)) (fun _ hk => hk.2)) (fun _ hk => trivial)⟩
 have n1_ : Y0 ((((((((w109.setCell ⟨g_5, 0, none⟩ (.int .i64 t_k)).setCell ⟨g_5, 1, none⟩ (.int .i64 t_l)).setCell ⟨g_5, 2, none⟩ (.int .i64 t_m)).setCell ⟨g_5, 3, none⟩ (.int .i64 t_n)).setCell ⟨g_5, 4, none⟩ (.int .i64 t_q)).setCell ⟨g_5, 5, none⟩ (.int .i64 t_s)).setCell ⟨g_5, 6, none⟩ (.int .i64 t_v)).heap[g_1]? = some (.cells #[.int .i64 t_3, .slice Ao65 t_0.length co65] 24 (0, 0))) := ⟨by (with_reducible repeat (first | refine Y8 ?_ _ | refine Y7 ?_ | refine Y6 ?_ _)); refine (Below.heap_setCell _ ⟨_, _, none⟩ _ _ N_2.out).trans ?_; (with_reducible repeat (first | refine Y8 ?_ _ | refine Y7 ?_ | refine Y6 ?_ _)); refine (Below.heap_setCell _ ⟨_, _, none⟩ _ _ N_2.out).trans ?_; (with_reducible repeat (first | refine Y8 ?_ _ | refine Y7 ?_ | refine Y6 ?_ _)); refine (Below.heap_setCell _ ⟨_, _, none⟩ _ _ N_2.out).trans ?_; (with_reducible repeat (first | refine Y8 ?_ _ | refine Y7 ?_ | refine Y6 ?_ _)); refine (Below.heap_setCell _ ⟨_, _, none⟩ _ _ N_2.out).trans ?_; (with_reducible repeat (first | refine Y8 ?_ _ | refine Y7 ?_ | refine Y6 ?_ _)); refine (Below.heap_setCell _ ⟨_, _, none⟩ _ _ N_2.out).trans ?_; (with_reducible repeat (first | refine Y8 ?_ _ | refine Y7 ?_ | refine Y6 ?_ _)); refine (Below.heap_setCell _ ⟨_, _, none⟩ _ _ N_2.out).trans ?_; (with_reducible repeat (first | refine Y8 ?_ _ | refine Y7 ?_ | refine Y6 ?_ _)); refine (Below.heap_setCell _ ⟨_, _, none⟩ _ _ N_2.out).trans ?_; (with_reducible repeat (first | refine Y8 ?_ _ | refine Y7 ?_ | refine Y6 ?_ _)); exact B_0.out⟩
 have n2_ : Y0 ((((((((w109.setCell ⟨g_5, 0, none⟩ (.int .i64 t_k)).setCell ⟨g_5, 1, none⟩ (.int .i64 t_l)).setCell ⟨g_5, 2, none⟩ (.int .i64 t_m)).setCell ⟨g_5, 3, none⟩ (.int .i64 t_n)).setCell ⟨g_5, 4, none⟩ (.int .i64 t_q)).setCell ⟨g_5, 5, none⟩ (.int .i64 t_s)).setCell ⟨g_5, 6, none⟩ (.int .i64 t_v)).heap[g_0]? = some (.cells #[.int .i64 t_g, .int .i64 t_h, .int .i64 t_f, .int .i64 t_e, .int .i64 t_i, .int .i64 t_d, .int .i64 t_j] 28 (0, 0))) := ⟨by (with_reducible repeat (first | refine Y8 ?_ _ | refine Y7 ?_ | refine Y6 ?_ _)); refine (Below.heap_setCell _ ⟨_, _, none⟩ _ _ N_c.out).trans ?_; (with_reducible repeat (first | refine Y8 ?_ _ | refine Y7 ?_ | refine Y6 ?_ _)); refine (Below.heap_setCell _ ⟨_, _, none⟩ _ _ N_c.out).trans ?_; (with_reducible repeat (first | refine Y8 ?_ _ | refine Y7 ?_ | refine Y6 ?_ _)); refine (Below.heap_setCell _ ⟨_, _, none⟩ _ _ N_c.out).trans ?_; (with_reducible repeat (first | refine Y8 ?_ _ | refine Y7 ?_ | refine Y6 ?_ _)); refine (Below.heap_setCell _ ⟨_, _, none⟩ _ _ N_c.out).trans ?_; (with_reducible repeat (first | refine Y8 ?_ _ | refine Y7 ?_ | refine Y6 ?_ _)); refine (Below.heap_setCell _ ⟨_, _, none⟩ _ _ N_c.out).trans ?_; (with_reducible repeat (first | refine Y8 ?_ _ | refine Y7 ?_ | refine Y6 ?_ _)); refine (Below.heap_setCell _ ⟨_, _, none⟩ _ _ N_c.out).trans ?_; (with_reducible repeat (first | refine Y8 ?_ _ | refine Y7 ?_ | refine Y6 ?_ _)); refine (Below.heap_setCell _ ⟨_, _, none⟩ _ _ N_c.out).trans ?_; (with_reducible repeat (first | refine Y8 ?_ _ | refine Y7 ?_ | refine Y6 ?_ _)); exact B_1.out⟩
 have n3_ : Y0 ((((((((w109.setCell ⟨g_5, 0, none⟩ (.int .i64 t_k)).setCell ⟨g_5, 1, none⟩ (.int .i64 t_l)).setCell ⟨g_5, 2, none⟩ (.int .i64 t_m)).setCell ⟨g_5, 3, none⟩ (.int .i64 t_n)).setCell ⟨g_5, 4, none⟩ (.int .i64 t_q)).setCell ⟨g_5, 5, none⟩ (.int .i64 t_s)).setCell ⟨g_5, 6, none⟩ (.int .i64 t_v)).heap[g_5]? = some (.cells #[.int .i64 t_k, .int .i64 t_l, .int .i64 t_m, .int .i64 t_n, .int .i64 t_q, .int .i64 t_s, .int .i64 t_v] 28 (0, 0))) := ⟨by (with_reducible repeat (first | refine Y8 ?_ _ | refine Y7 ?_ | refine Y6 ?_ _)); refine Yn (cs := #[.int .i64 t_k, .int .i64 t_l, .int .i64 t_m, .int .i64 t_n, .int .i64 t_q, .int .i64 t_s, .int .i64 0]) ?_ 6 _ rfl; (with_reducible repeat (first | refine Y8 ?_ _ | refine Y7 ?_ | refine Y6 ?_ _)); refine Yn (cs := #[.int .i64 t_k, .int .i64 t_l, .int .i64 t_m, .int .i64 t_n, .int .i64 t_q, .int .i64 0, .int .i64 0]) ?_ 5 _ rfl; (with_reducible repeat (first | refine Y8 ?_ _ | refine Y7 ?_ | refine Y6 ?_ _)); refine Yn (cs := #[.int .i64 t_k, .int .i64 t_l, .int .i64 t_m, .int .i64 t_n, .int .i64 0, .int .i64 0, .int .i64 0]) ?_ 4 _ rfl; (with_reducible repeat (first | refine Y8 ?_ _ | refine Y7 ?_ | refine Y6 ?_ _)); refine Yn (cs := #[.int .i64 t_k, .int .i64 t_l, .int .i64 t_m, .int .i64 0, .int .i64 0, .int .i64 0, .int .i64 0]) ?_ 3 _ rfl; (with_reducible repeat (first | refine Y8 ?_ _ | refine Y7 ?_ | refine Y6 ?_ _)); refine Yn (cs := #[.int .i64 t_k, .int .i64 t_l, .int .i64 0, .int .i64 0, .int .i64 0, .int .i64 0, .int .i64 0]) ?_ 2 _ rfl; (with_reducible repeat (first | refine Y8 ?_ _ | refine Y7 ?_ | refine Y6 ?_ _)); refine Yn (cs := #[.int .i64 t_k, .int .i64 0, .int .i64 0, .int .i64 0, .int .i64 0, .int .i64 0, .int .i64 0]) ?_ 1 _ rfl; (with_reducible repeat (first | refine Y8 ?_ _ | refine Y7 ?_ | refine Y6 ?_ _)); refine Yn (cs := #[.int .i64 0, .int .i64 0, .int .i64 0, .int .i64 0, .int .i64 0, .int .i64 0, .int .i64 0]) ?_ 0 _ rfl; (with_reducible repeat (first | refine Y8 ?_ _ | refine Y7 ?_ | refine Y6 ?_ _)); exact B_5.out⟩
 have n4_ : Y0 (Below w.heap.size w (((((((w109.setCell ⟨g_5, 0, none⟩ (.int .i64 t_k)).setCell ⟨g_5, 1, none⟩ (.int .i64 t_l)).setCell ⟨g_5, 2, none⟩ (.int .i64 t_m)).setCell ⟨g_5, 3, none⟩ (.int .i64 t_n)).setCell ⟨g_5, 4, none⟩ (.int .i64 t_q)).setCell ⟨g_5, 5, none⟩ (.int .i64 t_s)).setCell ⟨g_5, 6, none⟩ (.int .i64 t_v))) := ⟨hU HB.out⟩
 (try clear O_0)
 (try clear B_0)
 (try clear B_1)
 (try clear B_5)
 (try clear HB)
 generalize (((((((w109.setCell ⟨g_5, 0, none⟩ (.int .i64 t_k)).setCell ⟨g_5, 1, none⟩ (.int .i64 t_l)).setCell ⟨g_5, 2, none⟩ (.int .i64 t_m)).setCell ⟨g_5, 3, none⟩ (.int .i64 t_n)).setCell ⟨g_5, 4, none⟩ (.int .i64 t_q)).setCell ⟨g_5, 5, none⟩ (.int .i64 t_s)).setCell ⟨g_5, 6, none⟩ (.int .i64 t_v)) = w117 at n0_ n1_ n2_ n3_ n4_ ⊢
 have O_0 := n0_
 have B_0 := n1_
 have B_1 := n2_
 have B_5 := n3_
 have HB := n4_
 clear n0_ n1_ n2_ n3_ n4_
 have n0_ := Y0.mk (Kd.R_drew O_0.out)
 have n1_ := Y0.mk (Y7 B_0.out)
 have n2_ := Y0.mk (Y7 B_1.out)
 have n3_ := Y0.mk (Y7 B_5.out)
 have n4_ := Y0.mk (Yv HB.out)
 clear O_0
 clear B_0
 clear B_1
 clear B_5
 clear HB
 have O_0 := n0_
 have B_0 := n1_
 have B_1 := n2_
 have B_5 := n3_
 have HB := n4_
 clear n0_ n1_ n2_ n3_ n4_
 refine Y19 (n := 15) (S := fun w' => w'.cell? ⟨g_0, 0, none⟩ = some (.int .i64 t_g) ∧ w'.cell? ⟨g_0, 1, none⟩ = some (.int .i64 t_h) ∧ w'.cell? ⟨g_0, 2, none⟩ = some (.int .i64 t_f) ∧ w'.cell? ⟨g_0, 3, none⟩ = some (.int .i64 t_e) ∧ w'.cell? ⟨g_0, 4, none⟩ = some (.int .i64 t_i) ∧ w'.cell? ⟨g_0, 5, none⟩ = some (.int .i64 t_d) ∧ w'.cell? ⟨g_0, 6, none⟩ = some (.int .i64 t_j)) (ds := []) #[false, false, false, false, false, false, false, false, false, false, false, false, false, false, false] (by kernel_rfl) rfl rfl ⟨(Y2 B_1.out 0).trans rfl, (Y2 B_1.out 1).trans rfl, (Y2 B_1.out 2).trans rfl, (Y2 B_1.out 3).trans rfl, (Y2 B_1.out 4).trans rfl, (Y2 B_1.out 5).trans rfl, (Y2 B_1.out 6).trans rfl⟩ (fun hHeld => ?_); refine YO Ya.tab11 Ya.bits11 (fun HT_ HW_ => ?_)
 generalize w117.drew = w118 at O_0 B_0 B_1 B_5 HB hHeld ⊢
 refine tkA 0 84 (bs 15 1) hHeld ?_
 refine one_ (i := 1) (N := some 85) (bs 15 3) rfl rfl (YH HT_.out (by kernel_rfl)) (by decide) (fun K hK => ?_)
 refine goes_ Try.func50 (by kernel_rfl) rfl #[] (by rfl) rfl rfl (by (try simp only [List.map_toArray, List.map_cons, List.map_nil]); first | done | (go_simp; done) | rfl | (simp only [List.length_drop, List.length_take]; rfl)) ?_
 with_reducible refine (YA.calls  t321 t322 t323 t324 t325 t326 t327 _ A24.out).mono ?_
 rintro e w119 ⟨rfl, hb⟩
 refine ⟨_, rfl, ?_⟩
 replace O_0 := Y0.mk (Kd.R_below (Kd.rU O_0.out) hb)
 replace B_0 := Y0.mk (Y3 (bU B_0.out) hb)
 replace B_1 := Y0.mk (Y3 (bU B_1.out) hb)
 replace B_5 := Y0.mk (Y3 (bU B_5.out) hb)
 replace HB := Y0.mk (Y5 (hU HB.out) hb)
 (try clear hb)
 (try clear hb2)
 (try clear hk)
 (try clear hi)
 refine hK.out _ _ ⟨(Y2 B_1.out 0).trans rfl, (Y2 B_1.out 1).trans rfl, (Y2 B_1.out 2).trans rfl, (Y2 B_1.out 3).trans rfl, (Y2 B_1.out 4).trans rfl, (Y2 B_1.out 5).trans rfl, (Y2 B_1.out 6).trans rfl⟩ (fun hHeld => ?_)
 clear hK K
 refine nmA 85 ?_
 refine puA 2 86 (bs 15 7) ?_
 refine puA 3 87 (bs 15 15) ?_
 refine puA 4 88 (bs 15 31) ?_
 refine puA 5 89 (bs 15 63) ?_
 refine puA 6 90 (bs 15 127) ?_
 refine puA 7 91 (bs 15 255) ?_
 refine puA 8 92 (bs 15 511) ?_
 refine puA 9 93 (bs 15 1023) ?_
 refine puA 10 94 (bs 15 2047) ?_
 refine puA 11 95 (bs 15 4095) ?_
 refine puA 12 96 (bs 15 8191) ?_
 refine puA 13 97 (bs 15 16383) ?_
 refine puA 14 98 (bs 15 32767) ?_
 refine done_ (Y17 HT_.out (by kernel_rfl)) ?_
 try go_wp2
 replace O_0 := Y0.mk (Kd.R_drew O_0.out)
 replace B_0 := Y0.mk (Y7 B_0.out)
 replace B_1 := Y0.mk (Y7 B_1.out)
 replace HB := Y0.mk (Yv HB.out)
 refine Y19 (n := 11) (S := fun w' => w'.cell? ⟨g_1, 0, none⟩ = some (.int .i64 t_3) ∧ w'.cell? ⟨g_1, 1, none⟩ = some (.slice Ao65 t_0.length co65)) (ds := []) #[false, false, false, false, false, false, false, false, false, false, false] (by kernel_rfl) rfl rfl ⟨(Y2 B_0.out 0).trans rfl, (Y2 B_0.out 1).trans rfl⟩ (fun hHeld => ?_); refine YO Ya.tab13 Ya.bits13 (fun HT_ HW_ => ?_)
 generalize w119.drew = w120 at O_0 B_0 B_1 HB hHeld ⊢
 refine tkA 0 100 (bs 11 1) hHeld ?_
 refine join_ (σ := Value × Nat) 2 #[true, true, true, true, true, true, true, true, true, false, false] (fun s_ => [(101, .agg #[.int .i64 t328, .int .i64 t329]), (102, .agg #[.int .i64 t_x, .int .i64 t_z]), (104, .tuple #[.agg #[.int .i64 t_4, s_.1], .int .i64 t336]), (11, .pointer (some ⟨s_.2, 0, none⟩)), (103, .agg #[.int .i64 t328, .int .i64 t329, .int .i64 0, .int .i64 t_x, .int .i64 t_z, .bool true, .int .i64 0, .int .i64 0, .int .i64 0, .int .i64 0, .int .i64 0, .int .i64 0, .int .i64 0]), (99, .tuple #[.agg #[.int .i64 t_4, s_.1], .int .i64 t336]), (105, .agg #[.int .i64 t_4, s_.1]), (106, .int .i64 t336)]) (fun s_ w' => (w'.cell? ⟨g_1, 0, none⟩ = some (.int .i64 t_3) ∧ w'.cell? ⟨g_1, 1, none⟩ = some (.slice Ao65 t_0.length co65)) ∧ (Kd.R k30 30 w' w.heap.size (fun k_ => some k_ ≠ (s_.1 : Value).ownBlock) (.slice Ao65 t_0.length co65) t_0) ∧ (Kd.R k30 30 w' w.heap.size (fun k_ => some k_ ≠ (.slice Ao65 t_0.length co65 : Value).ownBlock) s_.1 t_1) ∧ (w'.heap[g_1]? = some (.cells #[.int .i64 t_3, .slice Ao65 t_0.length co65] 24 (0, 0))) ∧ (w'.heap[g_0]? = some (.cells #[.int .i64 t_g, .int .i64 t_h, .int .i64 t_f, .int .i64 t_e, .int .i64 t_i, .int .i64 t_d, .int .i64 t_j] 28 (0, 0))) ∧ (w'.heap[s_.2]? = some (.cells #[.int .i64 0, .slice none 0 0] 24 (0, 0))) ∧ (w.heap.size ≤ s_.2) ∧ (w.heap.size ≤ s_.2) ∧ (g_1 ≠ s_.2) ∧ (s_.2 ≠ g_1) ∧ (g_0 ≠ s_.2) ∧ (s_.2 ≠ g_0) ∧ (Below w.heap.size w w')) ?_ ?_
 rotate_left
 ·intro hCont
  refine two_ (i := 1) (j := 8) (Ni := some 101) (Nj := some 11) #[true, true, false, false, false, false, false, false, false, false, false] #[true, false, false, false, false, false, false, false, true, false, false] rfl rfl rfl rfl (Y1w HT_.out (by kernel_rfl)) (by decide) (by decide) (fun K hK => ?_) (fun K hK => ?_)
  ·skip
   refine goes_ Try.func51 (by kernel_rfl) rfl #[.int .i64 4, .int .i64 2] (by rfl) rfl rfl (by (try simp only [List.map_toArray, List.map_cons, List.map_nil]); first | done | (go_simp; done) | rfl | (simp only [List.length_drop, List.length_take]; rfl)) ?_
   with_reducible refine (Yb.calls 4 2 t328 t329 _ A29.out).mono ?_
   rintro e w121 ⟨rfl, hb⟩
   refine ⟨_, rfl, ?_⟩
   replace O_0 := Y0.mk (Kd.R_below (Kd.rU O_0.out) hb)
   replace B_0 := Y0.mk (Y3 (bU B_0.out) hb)
   replace B_1 := Y0.mk (Y3 (bU B_1.out) hb)
   replace HB := Y0.mk (Y5 (hU HB.out) hb)
   (try clear hb)
   (try clear hb2)
   (try clear hk)
   (try clear hi)
   refine hK.out _ _ ⟨(Y2 B_0.out 0).trans rfl, (Y2 B_0.out 1).trans rfl⟩ (fun hHeld => ?_)
   clear hK K
   refine nmA 101 ?_
   refine two_ (i := 2) (j := 8) (Ni := some 102) (Nj := some 11) #[true, true, true, false, false, false, false, false, false, false, false] #[true, true, false, false, false, false, false, false, true, false, false] rfl rfl rfl rfl (Y1w HT_.out (by kernel_rfl)) (by decide) (by decide) (fun K hK => ?_) (fun K hK => ?_)
   ·skip
    refine goes_ Try.func51 (by kernel_rfl) rfl #[.int .i64 1, .int .i64 1] (by rfl) rfl rfl (by (try simp only [List.map_toArray, List.map_cons, List.map_nil]); first | done | (go_simp; done) | rfl | (simp only [List.length_drop, List.length_take]; rfl)) ?_
    with_reducible refine (Yb.calls 1 1 t_x t_z _ A30.out).mono ?_
    rintro e w122 ⟨rfl, hb⟩
    refine ⟨_, rfl, ?_⟩
    replace O_0 := Y0.mk (Kd.R_below (Kd.rU O_0.out) hb)
    replace B_0 := Y0.mk (Y3 (bU B_0.out) hb)
    replace B_1 := Y0.mk (Y3 (bU B_1.out) hb)
    replace HB := Y0.mk (Y5 (hU HB.out) hb)
    (try clear hb)
    (try clear hb2)
    (try clear hk)
    (try clear hi)
    refine hK.out _ _ ⟨(Y2 B_0.out 0).trans rfl, (Y2 B_0.out 1).trans rfl⟩ (fun hHeld => ?_)
    clear hK K
    refine nmA 102 ?_
    refine puA 3 103 (bs 11 15) ?_
    refine two_ (i := 4) (j := 8) (Ni := some 104) (Nj := some 11) #[true, true, true, true, true, false, false, false, false, false, false] #[true, true, true, true, false, false, false, false, true, false, false] rfl rfl rfl rfl (Y1w HT_.out (by kernel_rfl)) (by decide) (by decide) (fun K hK => ?_) (fun K hK => ?_)
    ·skip
     refine goes_ Try.func19 (by kernel_rfl) rfl #[.agg #[.int .i64 t_3, .slice Ao65 t_0.length co65], .agg #[.int .i64 t328, .int .i64 t329, .int .i64 0, .int .i64 t_x, .int .i64 t_z, .bool true, .int .i64 0, .int .i64 0, .int .i64 0, .int .i64 0, .int .i64 0, .int .i64 0, .int .i64 0]] (by rfl) rfl rfl (by (try simp only [List.map_toArray, List.map_cons, List.map_nil]); first | done | (go_simp; done) | rfl | (simp only [List.length_drop, List.length_take]; rfl)) ?_
     with_reducible refine (YJ.calls t_3 _ _ t_0 t328 t329 0 t_x t_z true 0 0 0 0 0 0 0 t_4 t_1 t336 _ ?side1 ?side2 A31.out).mono ?_
     (case side1 => repeat (first | exact (Kd.R_reads' O_0.out).2.2 | (with_reducible refine Kd.C_alloc ?_ _) | (with_reducible refine Kd.C_drewN ?_ _) | (with_reducible refine Kd.C_drew ?_)))
     (case side2 => exact (Kd.R_reads' O_0.out).2.1)
     rintro e w123 ⟨v_2, rfl, ho0, hb⟩
     refine ⟨_, rfl, ?_⟩
     replace O_1 := Y0.mk (Kd.R_lower (Kd.R_new' ho0 (Kd.R_lt (Kd.rU O_0.out))) (Yh (hU HB.out)))
     replace O_0 := Y0.mk (Kd.R_elder' (Kd.rU O_0.out) (Kd.R_base ho0) hb)
     replace B_0 := Y0.mk (Y3 (bU B_0.out) hb)
     replace B_1 := Y0.mk (Y3 (bU B_1.out) hb)
     replace HB := Y0.mk (Y5 (hU HB.out) hb)
     (try clear hb)
     (try clear hb2)
     (try clear hk)
     (try clear hi)
     (try clear ho0)
     refine hK.out _ _ ⟨(Y2 B_0.out 0).trans rfl, (Y2 B_0.out 1).trans rfl⟩ (fun hHeld => ?_)
     clear hK K
     refine nmA 104 ?_
     refine puA 5 99 (bs 11 63) ?_
     refine puA 6 105 (bs 11 127) ?_
     refine puA 7 106 (bs 11 255) ?_
     refine one_ (i := 8) (N := some 11) (bs 11 511) rfl rfl (YH HT_.out (by kernel_rfl)) (by decide) (fun K hK => ?_)
     refine YY ?hg (N := 11) ?hd (cs := #[.int .i64 0, .slice none 0 0]) (t := 24) ?hr ?_; (case hd => rfl); (case hg => rfl); (case hr => first | (go_simp; done) | (go_simp; rfl))
     intro g_3 hg w124 hbox hb
     have n0_ := Y0.mk (Kd.R_below (Kd.rU O_0.out) hb)
     have n1_ := Y0.mk (Kd.R_below (Kd.rU O_1.out) hb)
     have n2_ := Y0.mk (Y3 (bU B_0.out) hb)
     have n3_ := Y0.mk (Y3 (bU B_1.out) hb)
     have n4_ := Y0.mk (Y5 (hU HB.out) hb)
     have n5_ := Y0.mk (hbox)
     have n6_ := gE hg HB
     have n7_ := gE hg HB
     have n8_ := gL hg B_0
     have n9_ := gG hg B_0
     have n10_ := gL hg B_1
     have n11_ := gG hg B_1
     clear O_0
     clear O_1
     clear B_0
     clear B_1
     clear HB
     have O_0 := n0_
     have O_1 := n1_
     have B_0 := n2_
     have B_1 := n3_
     have HB := n4_
     have B_2 := n5_
     have W_1 := n6_
     have G_1 := n7_
     have N_e := n8_
     have N_k := n9_
     have N_b := n10_
     have N_1 := n11_
     clear n0_ n1_ n2_ n3_ n4_ n5_ n6_ n7_ n8_ n9_ n10_ n11_
     clear hb hbox hg
     refine hK.out _ _ ⟨(Y2 B_0.out 0).trans rfl, (Y2 B_0.out 1).trans rfl⟩ (fun hHeld => ?_)
     clear hK K
     refine nmA 11 ?_
     exact norm_ (by simp only [YB, Act.put, List.setIfInBounds_toArray, List.set_cons_zero, List.set_cons_succ]) (hCont (v_2, g_3) _ ⟨hHeld, (by (with_reducible repeat (first | apply Kd.R_alloc | apply Kd.R_drewN | apply Kd.R_drew)); exact Kd.R_mono O_0.out (fun _ hk => hk.2)), (by (with_reducible repeat (first | apply Kd.R_alloc | apply Kd.R_drewN | apply Kd.R_drew)); exact Kd.R_mono O_1.out (fun _ hk => hk.2)), (bU B_0.out), (bU B_1.out), (bU B_2.out), W_1.out, G_1.out, N_e.out, N_k.out, N_b.out, N_1.out, (hU HB.out)⟩)
    ·skip
     refine YY ?hg (N := 11) ?hd (cs := #[.int .i64 0, .slice none 0 0]) (t := 24) ?hr ?_; (case hd => rfl); (case hg => rfl); (case hr => first | (go_simp; done) | (go_simp; rfl))
     intro g_3 hg w123 hbox hb
     have n0_ := Y0.mk (Kd.R_below (Kd.rU O_0.out) hb)
     have n1_ := Y0.mk (Y3 (bU B_0.out) hb)
     have n2_ := Y0.mk (Y3 (bU B_1.out) hb)
     have n3_ := Y0.mk (Y5 (hU HB.out) hb)
     have n4_ := Y0.mk (hbox)
     have n5_ := gE hg HB
     have n6_ := gE hg HB
     have n7_ := gL hg B_0
     have n8_ := gG hg B_0
     have n9_ := gL hg B_1
     have n10_ := gG hg B_1
     clear O_0
     clear B_0
     clear B_1
     clear HB
     have O_0 := n0_
     have B_0 := n1_
     have B_1 := n2_
     have HB := n3_
     have B_2 := n4_
     have W_1 := n5_
     have G_1 := n6_
     have N_e := n7_
     have N_k := n8_
     have N_b := n9_
     have N_1 := n10_
     clear n0_ n1_ n2_ n3_ n4_ n5_ n6_ n7_ n8_ n9_ n10_
     clear hb hbox hg
     refine hK.out _ _ ⟨(Y2 B_0.out 0).trans rfl, (Y2 B_0.out 1).trans rfl⟩ (fun hHeld => ?_)
     clear hK K
     refine nmA 11 ?_
     refine one_ (i := 4) (N := some 104) (bs 11 287) rfl rfl (YH HT_.out (by kernel_rfl)) (by decide) (fun K hK => ?_)
     refine goes_ Try.func19 (by kernel_rfl) rfl #[.agg #[.int .i64 t_3, .slice Ao65 t_0.length co65], .agg #[.int .i64 t328, .int .i64 t329, .int .i64 0, .int .i64 t_x, .int .i64 t_z, .bool true, .int .i64 0, .int .i64 0, .int .i64 0, .int .i64 0, .int .i64 0, .int .i64 0, .int .i64 0]] (by rfl) rfl rfl (by (try simp only [List.map_toArray, List.map_cons, List.map_nil]); first | done | (go_simp; done) | rfl | (simp only [List.length_drop, List.length_take]; rfl)) ?_
     with_reducible refine (YJ.calls t_3 _ _ t_0 t328 t329 0 t_x t_z true 0 0 0 0 0 0 0 t_4 t_1 t336 _ ?side1 ?side2 A31.out).mono ?_
     (case side1 => repeat (first | exact (Kd.R_reads' O_0.out).2.2 | (with_reducible refine Kd.C_alloc ?_ _) | (with_reducible refine Kd.C_drewN ?_ _) | (with_reducible refine Kd.C_drew ?_)))
     (case side2 => exact (Kd.R_reads' O_0.out).2.1)
     rintro e w124 ⟨v_2, rfl, ho0, hb⟩
     refine ⟨_, rfl, ?_⟩
     replace O_1 := Y0.mk (Kd.R_lower (Kd.R_new' ho0 (Kd.R_lt (Kd.rU O_0.out))) (Yh (hU HB.out)))
     replace O_0 := Y0.mk (Kd.R_elder' (Kd.rU O_0.out) (Kd.R_base ho0) hb)
     replace B_0 := Y0.mk (Y3 (bU B_0.out) hb)
     replace B_1 := Y0.mk (Y3 (bU B_1.out) hb)
     replace B_2 := Y0.mk (Y3 (bU B_2.out) hb)
     replace HB := Y0.mk (Y5 (hU HB.out) hb)
     (try clear hb)
     (try clear hb2)
     (try clear hk)
     (try clear hi)
     (try clear ho0)
     refine hK.out _ _ ⟨(Y2 B_0.out 0).trans rfl, (Y2 B_0.out 1).trans rfl⟩ (fun hHeld => ?_)
     clear hK K
     refine nmA 104 ?_
     refine puA 5 99 (bs 11 319) ?_
     refine puA 6 105 (bs 11 383) ?_
     refine puA 7 106 (bs 11 511) ?_
     exact norm_ (by simp only [YB, Act.put, List.setIfInBounds_toArray, List.set_cons_zero, List.set_cons_succ]) (hCont (v_2, g_3) _ ⟨hHeld, (by (with_reducible repeat (first | apply Kd.R_alloc | apply Kd.R_drewN | apply Kd.R_drew)); exact Kd.R_mono O_0.out (fun _ hk => hk.2)), (by (with_reducible repeat (first | apply Kd.R_alloc | apply Kd.R_drewN | apply Kd.R_drew)); exact Kd.R_mono O_1.out (fun _ hk => hk.2)), (bU B_0.out), (bU B_1.out), (bU B_2.out), W_1.out, G_1.out, N_e.out, N_k.out, N_b.out, N_1.out, (hU HB.out)⟩)
   ·skip
    refine YY ?hg (N := 11) ?hd (cs := #[.int .i64 0, .slice none 0 0]) (t := 24) ?hr ?_; (case hd => rfl); (case hg => rfl); (case hr => first | (go_simp; done) | (go_simp; rfl))
    intro g_3 hg w122 hbox hb
    have n0_ := Y0.mk (Kd.R_below (Kd.rU O_0.out) hb)
    have n1_ := Y0.mk (Y3 (bU B_0.out) hb)
    have n2_ := Y0.mk (Y3 (bU B_1.out) hb)
    have n3_ := Y0.mk (Y5 (hU HB.out) hb)
    have n4_ := Y0.mk (hbox)
    have n5_ := gE hg HB
    have n6_ := gE hg HB
    have n7_ := gL hg B_0
    have n8_ := gG hg B_0
    have n9_ := gL hg B_1
    have n10_ := gG hg B_1
    clear O_0
    clear B_0
    clear B_1
    clear HB
    have O_0 := n0_
    have B_0 := n1_
    have B_1 := n2_
    have HB := n3_
    have B_2 := n4_
    have W_1 := n5_
    have G_1 := n6_
    have N_e := n7_
    have N_k := n8_
    have N_b := n9_
    have N_1 := n10_
    clear n0_ n1_ n2_ n3_ n4_ n5_ n6_ n7_ n8_ n9_ n10_
    clear hb hbox hg
    refine hK.out _ _ ⟨(Y2 B_0.out 0).trans rfl, (Y2 B_0.out 1).trans rfl⟩ (fun hHeld => ?_)
    clear hK K
    refine nmA 11 ?_
    refine one_ (i := 2) (N := some 102) (bs 11 263) rfl rfl (YH HT_.out (by kernel_rfl)) (by decide) (fun K hK => ?_)
    refine goes_ Try.func51 (by kernel_rfl) rfl #[.int .i64 1, .int .i64 1] (by rfl) rfl rfl (by (try simp only [List.map_toArray, List.map_cons, List.map_nil]); first | done | (go_simp; done) | rfl | (simp only [List.length_drop, List.length_take]; rfl)) ?_
    with_reducible refine (Yb.calls 1 1 t_x t_z _ A30.out).mono ?_
    rintro e w123 ⟨rfl, hb⟩
    refine ⟨_, rfl, ?_⟩
    replace O_0 := Y0.mk (Kd.R_below (Kd.rU O_0.out) hb)
    replace B_0 := Y0.mk (Y3 (bU B_0.out) hb)
    replace B_1 := Y0.mk (Y3 (bU B_1.out) hb)
    replace B_2 := Y0.mk (Y3 (bU B_2.out) hb)
    replace HB := Y0.mk (Y5 (hU HB.out) hb)
    (try clear hb)
    (try clear hb2)
    (try clear hk)
    (try clear hi)
    refine hK.out _ _ ⟨(Y2 B_0.out 0).trans rfl, (Y2 B_0.out 1).trans rfl⟩ (fun hHeld => ?_)
    clear hK K
    refine nmA 102 ?_
    refine puA 3 103 (bs 11 271) ?_
    refine one_ (i := 4) (N := some 104) (bs 11 287) rfl rfl (YH HT_.out (by kernel_rfl)) (by decide) (fun K hK => ?_)
    refine goes_ Try.func19 (by kernel_rfl) rfl #[.agg #[.int .i64 t_3, .slice Ao65 t_0.length co65], .agg #[.int .i64 t328, .int .i64 t329, .int .i64 0, .int .i64 t_x, .int .i64 t_z, .bool true, .int .i64 0, .int .i64 0, .int .i64 0, .int .i64 0, .int .i64 0, .int .i64 0, .int .i64 0]] (by rfl) rfl rfl (by (try simp only [List.map_toArray, List.map_cons, List.map_nil]); first | done | (go_simp; done) | rfl | (simp only [List.length_drop, List.length_take]; rfl)) ?_
    with_reducible refine (YJ.calls t_3 _ _ t_0 t328 t329 0 t_x t_z true 0 0 0 0 0 0 0 t_4 t_1 t336 _ ?side1 ?side2 A31.out).mono ?_
    (case side1 => repeat (first | exact (Kd.R_reads' O_0.out).2.2 | (with_reducible refine Kd.C_alloc ?_ _) | (with_reducible refine Kd.C_drewN ?_ _) | (with_reducible refine Kd.C_drew ?_)))
    (case side2 => exact (Kd.R_reads' O_0.out).2.1)
    rintro e w124 ⟨v_2, rfl, ho0, hb⟩
    refine ⟨_, rfl, ?_⟩
    replace O_1 := Y0.mk (Kd.R_lower (Kd.R_new' ho0 (Kd.R_lt (Kd.rU O_0.out))) (Yh (hU HB.out)))
    replace O_0 := Y0.mk (Kd.R_elder' (Kd.rU O_0.out) (Kd.R_base ho0) hb)
    replace B_0 := Y0.mk (Y3 (bU B_0.out) hb)
    replace B_1 := Y0.mk (Y3 (bU B_1.out) hb)
    replace B_2 := Y0.mk (Y3 (bU B_2.out) hb)
    replace HB := Y0.mk (Y5 (hU HB.out) hb)
    (try clear hb)
    (try clear hb2)
    (try clear hk)
    (try clear hi)
    (try clear ho0)
    refine hK.out _ _ ⟨(Y2 B_0.out 0).trans rfl, (Y2 B_0.out 1).trans rfl⟩ (fun hHeld => ?_)
    clear hK K
    refine nmA 104 ?_
    refine puA 5 99 (bs 11 319) ?_
    refine puA 6 105 (bs 11 383) ?_
    refine puA 7 106 (bs 11 511) ?_
    exact norm_ (by simp only [YB, Act.put, List.setIfInBounds_toArray, List.set_cons_zero, List.set_cons_succ]) (hCont (v_2, g_3) _ ⟨hHeld, (by (with_reducible repeat (first | apply Kd.R_alloc | apply Kd.R_drewN | apply Kd.R_drew)); exact Kd.R_mono O_0.out (fun _ hk => hk.2)), (by (with_reducible repeat (first | apply Kd.R_alloc | apply Kd.R_drewN | apply Kd.R_drew)); exact Kd.R_mono O_1.out (fun _ hk => hk.2)), (bU B_0.out), (bU B_1.out), (bU B_2.out), W_1.out, G_1.out, N_e.out, N_k.out, N_b.out, N_1.out, (hU HB.out)⟩)
  ·skip
   refine YY ?hg (N := 11) ?hd (cs := #[.int .i64 0, .slice none 0 0]) (t := 24) ?hr ?_; (case hd => rfl); (case hg => rfl); (case hr => first | (go_simp; done) | (go_simp; rfl))
   intro g_3 hg w121 hbox hb
   have n0_ := Y0.mk (Kd.R_below (Kd.rU O_0.out) hb)
   have n1_ := Y0.mk (Y3 (bU B_0.out) hb)
   have n2_ := Y0.mk (Y3 (bU B_1.out) hb)
   have n3_ := Y0.mk (Y5 (hU HB.out) hb)
   have n4_ := Y0.mk (hbox)
   have n5_ := gE hg HB
   have n6_ := gE hg HB
   have n7_ := gL hg B_0
   have n8_ := gG hg B_0
   have n9_ := gL hg B_1
   have n10_ := gG hg B_1
   clear O_0
   clear B_0
   clear B_1
   clear HB
   have O_0 := n0_
   have B_0 := n1_
   have B_1 := n2_
   have HB := n3_
   have B_2 := n4_
   have W_1 := n5_
   have G_1 := n6_
   have N_e := n7_
   have N_k := n8_
   have N_b := n9_
   have N_1 := n10_
   clear n0_ n1_ n2_ n3_ n4_ n5_ n6_ n7_ n8_ n9_ n10_
   clear hb hbox hg
   refine hK.out _ _ ⟨(Y2 B_0.out 0).trans rfl, (Y2 B_0.out 1).trans rfl⟩ (fun hHeld => ?_)
   clear hK K
   refine nmA 11 ?_
   refine one_ (i := 1) (N := some 101) (bs 11 259) rfl rfl (YH HT_.out (by kernel_rfl)) (by decide) (fun K hK => ?_)
   refine goes_ Try.func51 (by kernel_rfl) rfl #[.int .i64 4, .int .i64 2] (by rfl) rfl rfl (by (try simp only [List.map_toArray, List.map_cons, List.map_nil]); first | done | (go_simp; done) | rfl | (simp only [List.length_drop, List.length_take]; rfl)) ?_
   with_reducible refine (Yb.calls 4 2 t328 t329 _ A29.out).mono ?_
   rintro e w122 ⟨rfl, hb⟩
   refine ⟨_, rfl, ?_⟩
   replace O_0 := Y0.mk (Kd.R_below (Kd.rU O_0.out) hb)
   replace B_0 := Y0.mk (Y3 (bU B_0.out) hb)
   replace B_1 := Y0.mk (Y3 (bU B_1.out) hb)
   replace B_2 := Y0.mk (Y3 (bU B_2.out) hb)
   replace HB := Y0.mk (Y5 (hU HB.out) hb)
   (try clear hb)
   (try clear hb2)
   (try clear hk)
   (try clear hi)
   refine hK.out _ _ ⟨(Y2 B_0.out 0).trans rfl, (Y2 B_0.out 1).trans rfl⟩ (fun hHeld => ?_)
   clear hK K
   refine nmA 101 ?_
   refine one_ (i := 2) (N := some 102) (bs 11 263) rfl rfl (YH HT_.out (by kernel_rfl)) (by decide) (fun K hK => ?_)
   refine goes_ Try.func51 (by kernel_rfl) rfl #[.int .i64 1, .int .i64 1] (by rfl) rfl rfl (by (try simp only [List.map_toArray, List.map_cons, List.map_nil]); first | done | (go_simp; done) | rfl | (simp only [List.length_drop, List.length_take]; rfl)) ?_
   with_reducible refine (Yb.calls 1 1 t_x t_z _ A30.out).mono ?_
   rintro e w123 ⟨rfl, hb⟩
   refine ⟨_, rfl, ?_⟩
   replace O_0 := Y0.mk (Kd.R_below (Kd.rU O_0.out) hb)
   replace B_0 := Y0.mk (Y3 (bU B_0.out) hb)
   replace B_1 := Y0.mk (Y3 (bU B_1.out) hb)
   replace B_2 := Y0.mk (Y3 (bU B_2.out) hb)
   replace HB := Y0.mk (Y5 (hU HB.out) hb)
   (try clear hb)
   (try clear hb2)
   (try clear hk)
   (try clear hi)
   refine hK.out _ _ ⟨(Y2 B_0.out 0).trans rfl, (Y2 B_0.out 1).trans rfl⟩ (fun hHeld => ?_)
   clear hK K
   refine nmA 102 ?_
   refine puA 3 103 (bs 11 271) ?_
   refine one_ (i := 4) (N := some 104) (bs 11 287) rfl rfl (YH HT_.out (by kernel_rfl)) (by decide) (fun K hK => ?_)
   refine goes_ Try.func19 (by kernel_rfl) rfl #[.agg #[.int .i64 t_3, .slice Ao65 t_0.length co65], .agg #[.int .i64 t328, .int .i64 t329, .int .i64 0, .int .i64 t_x, .int .i64 t_z, .bool true, .int .i64 0, .int .i64 0, .int .i64 0, .int .i64 0, .int .i64 0, .int .i64 0, .int .i64 0]] (by rfl) rfl rfl (by (try simp only [List.map_toArray, List.map_cons, List.map_nil]); first | done | (go_simp; done) | rfl | (simp only [List.length_drop, List.length_take]; rfl)) ?_
   with_reducible refine (YJ.calls t_3 _ _ t_0 t328 t329 0 t_x t_z true 0 0 0 0 0 0 0 t_4 t_1 t336 _ ?side1 ?side2 A31.out).mono ?_
   (case side1 => repeat (first | exact (Kd.R_reads' O_0.out).2.2 | (with_reducible refine Kd.C_alloc ?_ _) | (with_reducible refine Kd.C_drewN ?_ _) | (with_reducible refine Kd.C_drew ?_)))
   (case side2 => exact (Kd.R_reads' O_0.out).2.1)
   rintro e w124 ⟨v_2, rfl, ho0, hb⟩
   refine ⟨_, rfl, ?_⟩
   replace O_1 := Y0.mk (Kd.R_lower (Kd.R_new' ho0 (Kd.R_lt (Kd.rU O_0.out))) (Yh (hU HB.out)))
   replace O_0 := Y0.mk (Kd.R_elder' (Kd.rU O_0.out) (Kd.R_base ho0) hb)
   replace B_0 := Y0.mk (Y3 (bU B_0.out) hb)
   replace B_1 := Y0.mk (Y3 (bU B_1.out) hb)
   replace B_2 := Y0.mk (Y3 (bU B_2.out) hb)
   replace HB := Y0.mk (Y5 (hU HB.out) hb)
   (try clear hb)
   (try clear hb2)
   (try clear hk)
   (try clear hi)
   (try clear ho0)
   refine hK.out _ _ ⟨(Y2 B_0.out 0).trans rfl, (Y2 B_0.out 1).trans rfl⟩ (fun hHeld => ?_)
   clear hK K
   refine nmA 104 ?_
   refine puA 5 99 (bs 11 319) ?_
   refine puA 6 105 (bs 11 383) ?_
   refine puA 7 106 (bs 11 511) ?_
   exact norm_ (by simp only [YB, Act.put, List.setIfInBounds_toArray, List.set_cons_zero, List.set_cons_succ]) (hCont (v_2, g_3) _ ⟨hHeld, (by (with_reducible repeat (first | apply Kd.R_alloc | apply Kd.R_drewN | apply Kd.R_drew)); exact Kd.R_mono O_0.out (fun _ hk => hk.2)), (by (with_reducible repeat (first | apply Kd.R_alloc | apply Kd.R_drewN | apply Kd.R_drew)); exact Kd.R_mono O_1.out (fun _ hk => hk.2)), (bU B_0.out), (bU B_1.out), (bU B_2.out), W_1.out, G_1.out, N_e.out, N_k.out, N_b.out, N_1.out, (hU HB.out)⟩)
 rintro ⟨v_2, g_3⟩ w125 ⟨hS_, h0_, h1_, h2_, h3_, h4_, h5_, h6_, h7_, h8_, h9_, h10_, h11_⟩
 have n0_ : Y0 (Kd.R k30 30 w125 w.heap.size (fun k_ => some k_ ≠ (v_2 : Value).ownBlock) (.slice Ao65 t_0.length co65) t_0) := ⟨h0_⟩
 have n1_ : Y0 (Kd.R k30 30 w125 w.heap.size (fun k_ => some k_ ≠ (.slice Ao65 t_0.length co65 : Value).ownBlock) v_2 t_1) := ⟨h1_⟩
 have n2_ : Y0 (w125.heap[g_1]? = some (.cells #[.int .i64 t_3, .slice Ao65 t_0.length co65] 24 (0, 0))) := ⟨h2_⟩
 have n3_ : Y0 (w125.heap[g_0]? = some (.cells #[.int .i64 t_g, .int .i64 t_h, .int .i64 t_f, .int .i64 t_e, .int .i64 t_i, .int .i64 t_d, .int .i64 t_j] 28 (0, 0))) := ⟨h3_⟩
 have n4_ : Y0 (w125.heap[g_3]? = some (.cells #[.int .i64 0, .slice none 0 0] 24 (0, 0))) := ⟨h4_⟩
 have n5_ : Y0 (w.heap.size ≤ g_3) := ⟨h5_⟩
 have n6_ : Y0 (w.heap.size ≤ g_3) := ⟨h6_⟩
 have n7_ : Y0 (g_1 ≠ g_3) := ⟨h7_⟩
 have n8_ : Y0 (g_3 ≠ g_1) := ⟨h8_⟩
 have n9_ : Y0 (g_0 ≠ g_3) := ⟨h9_⟩
 have n10_ : Y0 (g_3 ≠ g_0) := ⟨h10_⟩
 have n11_ : Y0 (Below w.heap.size w w125) := ⟨h11_⟩
 clear O_0
 clear B_0
 clear B_1
 clear HB
 clear h0_ h1_ h2_ h3_ h4_ h5_ h6_ h7_ h8_ h9_ h10_ h11_
 have O_0 := n0_
 have O_1 := n1_
 have B_0 := n2_
 have B_1 := n3_
 have B_2 := n4_
 have W_1 := n5_
 have G_1 := n6_
 have N_e := n7_
 have N_k := n8_
 have N_b := n9_
 have N_1 := n10_
 have HB := n11_
 clear n0_ n1_ n2_ n3_ n4_ n5_ n6_ n7_ n8_ n9_ n10_ n11_
 have hHeld : w125.cell? ⟨g_1, 0, none⟩ = some (.int .i64 t_3) ∧ w125.cell? ⟨g_1, 1, none⟩ = some (.slice Ao65 t_0.length co65) := hS_
 obtain ⟨Ao127, co127, eo127⟩ := Kd.R_slice O_1.out
 (first | subst eo127 | (injection eo127 with f1_ f2_ f3_; have f4_ := f1_.symm; have f5_ := f3_.symm; clear f1_ f2_ f3_; subst f4_; subst f5_))
 refine norm_ (a' := ?_) ?_ ?_
 rotate_left
 ·simp only [YB, Act.put, List.setIfInBounds_toArray, List.set_cons_zero, List.set_cons_succ]
  rfl
 refine one_ (i := 9) (N := none) #[true, true, true, true, true, true, true, true, true, true, false] rfl rfl (YH HT_.out (by kernel_rfl)) (by decide) (fun K hK => ?_)
 have hs126 : w125.cell? ⟨g_3, 0, none⟩ = some (.int .i64 0) := (Y2 B_2.out 0).trans rfl
 have hfs126 := Y4 B_2.out 0
 have hns126_0 := N_e.out
 have hns126_1 := N_b.out
 have hms126_0 := N_k.out
 have hms126_1 := N_1.out
 have hs128 : w125.cell? ⟨g_3, 1, none⟩ = some (.slice none 0 0) := (Y2 B_2.out 1).trans rfl
 have hfs128 := Y4 B_2.out 1
 have hns128_0 := N_e.out
 have hns128_1 := N_b.out
 have hms128_0 := N_k.out
 have hms128_1 := N_1.out
 refine skip_ (w1 := ?_) (by rfl) rfl ?_ ?_
 rotate_left
 ·go_simp
  rfl
 refine hK.out _ _ ⟨(cf2 (g := g_3) N_e.out (hHeld.1)), (cf2 (g := g_3) N_e.out (hHeld.2))⟩ (fun hHeld => ?_)
 clear hK K
 refine puA 10 4 (bs 11 2047) ?_
 refine done_ (Y17 HT_.out (by kernel_rfl)) ?_
 have hnb129 := N_k.out
 have hnc129 := N_e.out
 have hnb130 := N_1.out
 have hnc130 := N_b.out
 have z_3 := Y2 B_2.out
 have f_5 := Y4 B_2.out
 try go_wp2
 have n0_ : Y0 (Kd.R k30 30 ((w125.setCell ⟨g_3, 0, none⟩ (.int .i64 t_4)).setCell ⟨g_3, 1, none⟩ (.slice Ao127 t_1.length co127)) w.heap.size (fun k_ => some k_ ≠ (.slice Ao127 t_1.length co127 : Value).ownBlock) (.slice Ao65 t_0.length co65) t_0) := ⟨by (with_reducible repeat (first | apply Kd.R_alloc | apply Kd.R_drewN | apply Kd.R_drew)); exact Kd.R_mono (rf2 (g := g_3) (Kd.R_types O_0.out B_2.out (by decide)) (fun _ hk => hk.2)) (fun _ hk => hk.1)⟩
 have n1_ : Y0 (Kd.R k30 30 ((w125.setCell ⟨g_3, 0, none⟩ (.int .i64 t_4)).setCell ⟨g_3, 1, none⟩ (.slice Ao127 t_1.length co127)) w.heap.size (fun k_ => some k_ ≠ (.slice Ao65 t_0.length co65 : Value).ownBlock) (.slice Ao127 t_1.length co127) t_1) := ⟨by (with_reducible repeat (first | apply Kd.R_alloc | apply Kd.R_drewN | apply Kd.R_drew)); exact Kd.R_mono (rf2 (g := g_3) (Kd.R_types O_1.out B_2.out (by decide)) (fun _ hk => hk.2)) (fun _ hk => hk.1)⟩
 have n2_ : Y0 (((w125.setCell ⟨g_3, 0, none⟩ (.int .i64 t_4)).setCell ⟨g_3, 1, none⟩ (.slice Ao127 t_1.length co127)).heap[g_1]? = some (.cells #[.int .i64 t_3, .slice Ao65 t_0.length co65] 24 (0, 0))) := ⟨by (with_reducible repeat (first | refine Y8 ?_ _ | refine Y7 ?_ | refine Y6 ?_ _)); refine (Below.heap_setCell _ ⟨_, _, none⟩ _ _ N_e.out).trans ?_; (with_reducible repeat (first | refine Y8 ?_ _ | refine Y7 ?_ | refine Y6 ?_ _)); refine (Below.heap_setCell _ ⟨_, _, none⟩ _ _ N_e.out).trans ?_; (with_reducible repeat (first | refine Y8 ?_ _ | refine Y7 ?_ | refine Y6 ?_ _)); exact B_0.out⟩
 have n3_ : Y0 (((w125.setCell ⟨g_3, 0, none⟩ (.int .i64 t_4)).setCell ⟨g_3, 1, none⟩ (.slice Ao127 t_1.length co127)).heap[g_0]? = some (.cells #[.int .i64 t_g, .int .i64 t_h, .int .i64 t_f, .int .i64 t_e, .int .i64 t_i, .int .i64 t_d, .int .i64 t_j] 28 (0, 0))) := ⟨by (with_reducible repeat (first | refine Y8 ?_ _ | refine Y7 ?_ | refine Y6 ?_ _)); refine (Below.heap_setCell _ ⟨_, _, none⟩ _ _ N_b.out).trans ?_; (with_reducible repeat (first | refine Y8 ?_ _ | refine Y7 ?_ | refine Y6 ?_ _)); refine (Below.heap_setCell _ ⟨_, _, none⟩ _ _ N_b.out).trans ?_; (with_reducible repeat (first | refine Y8 ?_ _ | refine Y7 ?_ | refine Y6 ?_ _)); exact B_1.out⟩
 have n4_ : Y0 (((w125.setCell ⟨g_3, 0, none⟩ (.int .i64 t_4)).setCell ⟨g_3, 1, none⟩ (.slice Ao127 t_1.length co127)).heap[g_3]? = some (.cells #[.int .i64 t_4, .slice Ao127 t_1.length co127] 24 (0, 0))) := ⟨by (with_reducible repeat (first | refine Y8 ?_ _ | refine Y7 ?_ | refine Y6 ?_ _)); refine Yn (cs := #[.int .i64 t_4, .slice none 0 0]) ?_ 1 _ rfl; (with_reducible repeat (first | refine Y8 ?_ _ | refine Y7 ?_ | refine Y6 ?_ _)); refine Yn (cs := #[.int .i64 0, .slice none 0 0]) ?_ 0 _ rfl; (with_reducible repeat (first | refine Y8 ?_ _ | refine Y7 ?_ | refine Y6 ?_ _)); exact B_2.out⟩
 have n5_ : Y0 (Below w.heap.size w ((w125.setCell ⟨g_3, 0, none⟩ (.int .i64 t_4)).setCell ⟨g_3, 1, none⟩ (.slice Ao127 t_1.length co127))) := ⟨hU HB.out⟩
 (try clear O_0)
 (try clear O_1)
 (try clear B_0)
 (try clear B_1)
 (try clear B_2)
 (try clear HB)
 generalize ((w125.setCell ⟨g_3, 0, none⟩ (.int .i64 t_4)).setCell ⟨g_3, 1, none⟩ (.slice Ao127 t_1.length co127)) = w132 at n0_ n1_ n2_ n3_ n4_ n5_ ⊢
 have O_0 := n0_
 have O_1 := n1_
 have B_0 := n2_
 have B_1 := n3_
 have B_2 := n4_
 have HB := n5_
 clear n0_ n1_ n2_ n3_ n4_ n5_
 have n0_ := Y0.mk (Kd.R_drew O_0.out)
 have n1_ := Y0.mk (Kd.R_drew O_1.out)
 have n2_ := Y0.mk (Y7 B_0.out)
 have n3_ := Y0.mk (Y7 B_1.out)
 have n4_ := Y0.mk (Y7 B_2.out)
 have n5_ := Y0.mk (Yv HB.out)
 clear O_0
 clear O_1
 clear B_0
 clear B_1
 clear B_2
 clear HB
 have O_0 := n0_
 have O_1 := n1_
 have B_0 := n2_
 have B_1 := n3_
 have B_2 := n4_
 have HB := n5_
 clear n0_ n1_ n2_ n3_ n4_ n5_
 refine Y19 (n := 10) (S := fun w' => w'.cell? ⟨g_3, 0, none⟩ = some (.int .i64 t_4) ∧ w'.cell? ⟨g_3, 1, none⟩ = some (.slice Ao127 t_1.length co127)) (ds := []) #[false, false, false, false, false, false, false, false, false, false] (by kernel_rfl) rfl rfl ⟨(Y2 B_2.out 0).trans rfl, (Y2 B_2.out 1).trans rfl⟩ (fun hHeld => ?_); refine YO Ya.tab16 Ya.bits16 (fun HT_ HW_ => ?_)
 generalize w132.drew = w133 at O_0 O_1 B_0 B_1 B_2 HB hHeld ⊢
 refine tkA 0 116 (bs 10 1) hHeld ?_
 refine one_ (i := 1) (N := some 117) (bs 10 3) rfl rfl (YH HT_.out (by kernel_rfl)) (by decide) (fun K hK => ?_)
 refine goes_ Try.func51 (by kernel_rfl) rfl #[.int .i64 1, .int .i64 1] (by rfl) rfl rfl (by (try simp only [List.map_toArray, List.map_cons, List.map_nil]); first | done | (go_simp; done) | rfl | (simp only [List.length_drop, List.length_take]; rfl)) ?_
 with_reducible refine (Yb.calls 1 1 t338 t339 _ A34.out).mono ?_
 rintro e w134 ⟨rfl, hb⟩
 refine ⟨_, rfl, ?_⟩
 replace O_0 := Y0.mk (Kd.R_below (Kd.rU O_0.out) hb)
 replace O_1 := Y0.mk (Kd.R_below (Kd.rU O_1.out) hb)
 replace B_0 := Y0.mk (Y3 (bU B_0.out) hb)
 replace B_1 := Y0.mk (Y3 (bU B_1.out) hb)
 replace B_2 := Y0.mk (Y3 (bU B_2.out) hb)
 replace HB := Y0.mk (Y5 (hU HB.out) hb)
 (try clear hb)
 (try clear hb2)
 (try clear hk)
 (try clear hi)
 refine hK.out _ _ ⟨(Y2 B_2.out 0).trans rfl, (Y2 B_2.out 1).trans rfl⟩ (fun hHeld => ?_)
 clear hK K
 refine nmA 117 ?_
 refine one_ (i := 2) (N := some 118) (bs 10 7) rfl rfl (YH HT_.out (by kernel_rfl)) (by decide) (fun K hK => ?_)
 refine goes_ Try.func27 (by kernel_rfl) rfl #[.agg #[.int .i64 t_4, .slice Ao127 t_1.length co127], .int .i64 0, .agg #[.int .i64 t338, .int .i64 t339]] (by rfl) rfl rfl (by (try simp only [List.map_toArray, List.map_cons, List.map_nil]); first | done | (go_simp; done) | rfl | (simp only [List.length_drop, List.length_take]; rfl)) ?_
 with_reducible refine (YV.calls t_4 _ _ t_1 0 t338 t339 t_5 t_6 t_7 t_8 t_a t_b t_c false t348 _ ?side1 ?side2 A35.out).mono ?_
 (case side1 => repeat (first | exact (Kd.R_reads' O_1.out).2.2 | (with_reducible refine Kd.C_alloc ?_ _) | (with_reducible refine Kd.C_drewN ?_ _) | (with_reducible refine Kd.C_drew ?_)))
 (case side2 => exact (Kd.R_reads' O_1.out).2.1)
 rintro e w135 ⟨rfl, hb⟩
 refine ⟨_, rfl, ?_⟩
 replace O_0 := Y0.mk (Kd.R_below (Kd.rU O_0.out) hb)
 replace O_1 := Y0.mk (Kd.R_below (Kd.rU O_1.out) hb)
 replace B_0 := Y0.mk (Y3 (bU B_0.out) hb)
 replace B_1 := Y0.mk (Y3 (bU B_1.out) hb)
 replace B_2 := Y0.mk (Y3 (bU B_2.out) hb)
 replace HB := Y0.mk (Y5 (hU HB.out) hb)
 (try clear hb)
 (try clear hb2)
 (try clear hk)
 (try clear hi)
 refine hK.out _ _ ⟨(Y2 B_2.out 0).trans rfl, (Y2 B_2.out 1).trans rfl⟩ (fun hHeld => ?_)
 clear hK K
 refine nmA 118 ?_
 refine puA 3 115 (bs 10 15) ?_
 refine puA 4 119 (bs 10 31) ?_
 refine puA 5 120 (bs 10 63) ?_
 refine puA 6 121 (bs 10 127) ?_
 refine one_ (i := 7) (N := none) #[true, true, true, true, true, true, true, true, false, false] rfl rfl (YH HT_.out (by kernel_rfl)) (by decide) (fun K hK => ?_)
 have hs136 : w135.cell? ⟨g_0, 0, none⟩ = some (.int .i64 t_g) := (Y2 B_1.out 0).trans rfl
 have hfs136 := Y4 B_1.out 0
 have hns136_0 := N_0.out
 have hns136_2 := N_1.out
 have hms136_0 := N_d.out
 have hms136_2 := N_b.out
 have hs137 : w135.cell? ⟨g_0, 1, none⟩ = some (.int .i64 t_h) := (Y2 B_1.out 1).trans rfl
 have hfs137 := Y4 B_1.out 1
 have hns137_0 := N_0.out
 have hns137_2 := N_1.out
 have hms137_0 := N_d.out
 have hms137_2 := N_b.out
 have hs138 : w135.cell? ⟨g_0, 2, none⟩ = some (.int .i64 t_f) := (Y2 B_1.out 2).trans rfl
 have hfs138 := Y4 B_1.out 2
 have hns138_0 := N_0.out
 have hns138_2 := N_1.out
 have hms138_0 := N_d.out
 have hms138_2 := N_b.out
 have hs139 : w135.cell? ⟨g_0, 3, none⟩ = some (.int .i64 t_e) := (Y2 B_1.out 3).trans rfl
 have hfs139 := Y4 B_1.out 3
 have hns139_0 := N_0.out
 have hns139_2 := N_1.out
 have hms139_0 := N_d.out
 have hms139_2 := N_b.out
 have hs140 : w135.cell? ⟨g_0, 4, none⟩ = some (.int .i64 t_i) := (Y2 B_1.out 4).trans rfl
 have hfs140 := Y4 B_1.out 4
 have hns140_0 := N_0.out
 have hns140_2 := N_1.out
 have hms140_0 := N_d.out
 have hms140_2 := N_b.out
 have hs141 : w135.cell? ⟨g_0, 5, none⟩ = some (.int .i64 t_d) := (Y2 B_1.out 5).trans rfl
 have hfs141 := Y4 B_1.out 5
 have hns141_0 := N_0.out
 have hns141_2 := N_1.out
 have hms141_0 := N_d.out
 have hms141_2 := N_b.out
 have hs142 : w135.cell? ⟨g_0, 6, none⟩ = some (.int .i64 t_j) := (Y2 B_1.out 6).trans rfl
 have hfs142 := Y4 B_1.out 6
 have hns142_0 := N_0.out
 have hns142_2 := N_1.out
 have hms142_0 := N_d.out
 have hms142_2 := N_b.out
 refine skip_ (w1 := ?_) (by rfl) rfl ?_ ?_
 rotate_left
 ·go_simp
  rfl
 refine hK.out _ _ ⟨(cf7 (g := g_0) N_1.out (hHeld.1)), (cf7 (g := g_0) N_1.out (hHeld.2))⟩ (fun hHeld => ?_)
 clear hK K
 refine puA 8 7 (bs 10 511) ?_
 refine puA 9 4 (bs 10 1023) ?_
 refine done_ (Y17 HT_.out (by kernel_rfl)) ?_
 try go_wp2
 have n0_ : Y0 (Kd.R k30 30 (((((((w135.setCell ⟨g_0, 0, none⟩ (.int .i64 t_5)).setCell ⟨g_0, 1, none⟩ (.int .i64 t_6)).setCell ⟨g_0, 2, none⟩ (.int .i64 t_7)).setCell ⟨g_0, 3, none⟩ (.int .i64 t_8)).setCell ⟨g_0, 4, none⟩ (.int .i64 t_a)).setCell ⟨g_0, 5, none⟩ (.int .i64 t_b)).setCell ⟨g_0, 6, none⟩ (.int .i64 t_c)) w.heap.size (fun k_ => some k_ ≠ (.slice Ao127 t_1.length co127 : Value).ownBlock) (.slice Ao65 t_0.length co65) t_0) := ⟨by (with_reducible repeat (first | apply Kd.R_alloc | apply Kd.R_drewN | apply Kd.R_drew)); exact Kd.R_mono (rf7 (g := g_0) (Kd.R_types O_0.out B_1.out (by decide)) (fun _ hk => hk.2)) (fun _ hk => hk.1)⟩
 have n1_ : Y0 (Kd.R k30 30 (((((((w135.setCell ⟨g_0, 0, none⟩ (.int .i64 t_5)).setCell ⟨g_0, 1, none⟩ (.int .i64 t_6)).setCell ⟨g_0, 2, none⟩ (.int .i64 t_7)).setCell ⟨g_0, 3, none⟩ (.int .i64 t_8)).setCell ⟨g_0, 4, none⟩ (.int .i64 t_a)).setCell ⟨g_0, 5, none⟩ (.int .i64 t_b)).setCell ⟨g_0, 6, none⟩ (.int .i64 t_c)) w.heap.size (fun k_ => some k_ ≠ (.slice Ao65 t_0.length co65 : Value).ownBlock) (.slice Ao127 t_1.length co127) t_1) := ⟨by (with_reducible repeat (first | apply Kd.R_alloc | apply Kd.R_drewN | apply Kd.R_drew)); exact Kd.R_mono (rf7 (g := g_0) (Kd.R_types O_1.out B_1.out (by decide)) (fun _ hk => hk.2)) (fun _ hk => hk.1)⟩
 have n2_ : Y0 ((((((((w135.setCell ⟨g_0, 0, none⟩ (.int .i64 t_5)).setCell ⟨g_0, 1, none⟩ (.int .i64 t_6)).setCell ⟨g_0, 2, none⟩ (.int .i64 t_7)).setCell ⟨g_0, 3, none⟩ (.int .i64 t_8)).setCell ⟨g_0, 4, none⟩ (.int .i64 t_a)).setCell ⟨g_0, 5, none⟩ (.int .i64 t_b)).setCell ⟨g_0, 6, none⟩ (.int .i64 t_c)).heap[g_1]? = some (.cells #[.int .i64 t_3, .slice Ao65 t_0.length co65] 24 (0, 0))) := ⟨by (with_reducible repeat (first | refine Y8 ?_ _ | refine Y7 ?_ | refine Y6 ?_ _)); refine (Below.heap_setCell _ ⟨_, _, none⟩ _ _ N_0.out).trans ?_; (with_reducible repeat (first | refine Y8 ?_ _ | refine Y7 ?_ | refine Y6 ?_ _)); refine (Below.heap_setCell _ ⟨_, _, none⟩ _ _ N_0.out).trans ?_; (with_reducible repeat (first | refine Y8 ?_ _ | refine Y7 ?_ | refine Y6 ?_ _)); refine (Below.heap_setCell _ ⟨_, _, none⟩ _ _ N_0.out).trans ?_; (with_reducible repeat (first | refine Y8 ?_ _ | refine Y7 ?_ | refine Y6 ?_ _)); refine (Below.heap_setCell _ ⟨_, _, none⟩ _ _ N_0.out).trans ?_; (with_reducible repeat (first | refine Y8 ?_ _ | refine Y7 ?_ | refine Y6 ?_ _)); refine (Below.heap_setCell _ ⟨_, _, none⟩ _ _ N_0.out).trans ?_; (with_reducible repeat (first | refine Y8 ?_ _ | refine Y7 ?_ | refine Y6 ?_ _)); refine (Below.heap_setCell _ ⟨_, _, none⟩ _ _ N_0.out).trans ?_; (with_reducible repeat (first | refine Y8 ?_ _ | refine Y7 ?_ | refine Y6 ?_ _)); refine (Below.heap_setCell _ ⟨_, _, none⟩ _ _ N_0.out).trans ?_; (with_reducible repeat (first | refine Y8 ?_ _ | refine Y7 ?_ | refine Y6 ?_ _)); exact B_0.out⟩
 have n3_ : Y0 ((((((((w135.setCell ⟨g_0, 0, none⟩ (.int .i64 t_5)).setCell ⟨g_0, 1, none⟩ (.int .i64 t_6)).setCell ⟨g_0, 2, none⟩ (.int .i64 t_7)).setCell ⟨g_0, 3, none⟩ (.int .i64 t_8)).setCell ⟨g_0, 4, none⟩ (.int .i64 t_a)).setCell ⟨g_0, 5, none⟩ (.int .i64 t_b)).setCell ⟨g_0, 6, none⟩ (.int .i64 t_c)).heap[g_0]? = some (.cells #[.int .i64 t_5, .int .i64 t_6, .int .i64 t_7, .int .i64 t_8, .int .i64 t_a, .int .i64 t_b, .int .i64 t_c] 28 (0, 0))) := ⟨by (with_reducible repeat (first | refine Y8 ?_ _ | refine Y7 ?_ | refine Y6 ?_ _)); refine Yn (cs := #[.int .i64 t_5, .int .i64 t_6, .int .i64 t_7, .int .i64 t_8, .int .i64 t_a, .int .i64 t_b, .int .i64 t_j]) ?_ 6 _ rfl; (with_reducible repeat (first | refine Y8 ?_ _ | refine Y7 ?_ | refine Y6 ?_ _)); refine Yn (cs := #[.int .i64 t_5, .int .i64 t_6, .int .i64 t_7, .int .i64 t_8, .int .i64 t_a, .int .i64 t_d, .int .i64 t_j]) ?_ 5 _ rfl; (with_reducible repeat (first | refine Y8 ?_ _ | refine Y7 ?_ | refine Y6 ?_ _)); refine Yn (cs := #[.int .i64 t_5, .int .i64 t_6, .int .i64 t_7, .int .i64 t_8, .int .i64 t_i, .int .i64 t_d, .int .i64 t_j]) ?_ 4 _ rfl; (with_reducible repeat (first | refine Y8 ?_ _ | refine Y7 ?_ | refine Y6 ?_ _)); refine Yn (cs := #[.int .i64 t_5, .int .i64 t_6, .int .i64 t_7, .int .i64 t_e, .int .i64 t_i, .int .i64 t_d, .int .i64 t_j]) ?_ 3 _ rfl; (with_reducible repeat (first | refine Y8 ?_ _ | refine Y7 ?_ | refine Y6 ?_ _)); refine Yn (cs := #[.int .i64 t_5, .int .i64 t_6, .int .i64 t_f, .int .i64 t_e, .int .i64 t_i, .int .i64 t_d, .int .i64 t_j]) ?_ 2 _ rfl; (with_reducible repeat (first | refine Y8 ?_ _ | refine Y7 ?_ | refine Y6 ?_ _)); refine Yn (cs := #[.int .i64 t_5, .int .i64 t_h, .int .i64 t_f, .int .i64 t_e, .int .i64 t_i, .int .i64 t_d, .int .i64 t_j]) ?_ 1 _ rfl; (with_reducible repeat (first | refine Y8 ?_ _ | refine Y7 ?_ | refine Y6 ?_ _)); refine Yn (cs := #[.int .i64 t_g, .int .i64 t_h, .int .i64 t_f, .int .i64 t_e, .int .i64 t_i, .int .i64 t_d, .int .i64 t_j]) ?_ 0 _ rfl; (with_reducible repeat (first | refine Y8 ?_ _ | refine Y7 ?_ | refine Y6 ?_ _)); exact B_1.out⟩
 have n4_ : Y0 ((((((((w135.setCell ⟨g_0, 0, none⟩ (.int .i64 t_5)).setCell ⟨g_0, 1, none⟩ (.int .i64 t_6)).setCell ⟨g_0, 2, none⟩ (.int .i64 t_7)).setCell ⟨g_0, 3, none⟩ (.int .i64 t_8)).setCell ⟨g_0, 4, none⟩ (.int .i64 t_a)).setCell ⟨g_0, 5, none⟩ (.int .i64 t_b)).setCell ⟨g_0, 6, none⟩ (.int .i64 t_c)).heap[g_3]? = some (.cells #[.int .i64 t_4, .slice Ao127 t_1.length co127] 24 (0, 0))) := ⟨by (with_reducible repeat (first | refine Y8 ?_ _ | refine Y7 ?_ | refine Y6 ?_ _)); refine (Below.heap_setCell _ ⟨_, _, none⟩ _ _ N_1.out).trans ?_; (with_reducible repeat (first | refine Y8 ?_ _ | refine Y7 ?_ | refine Y6 ?_ _)); refine (Below.heap_setCell _ ⟨_, _, none⟩ _ _ N_1.out).trans ?_; (with_reducible repeat (first | refine Y8 ?_ _ | refine Y7 ?_ | refine Y6 ?_ _)); refine (Below.heap_setCell _ ⟨_, _, none⟩ _ _ N_1.out).trans ?_; (with_reducible repeat (first | refine Y8 ?_ _ | refine Y7 ?_ | refine Y6 ?_ _)); refine (Below.heap_setCell _ ⟨_, _, none⟩ _ _ N_1.out).trans ?_; (with_reducible repeat (first | refine Y8 ?_ _ | refine Y7 ?_ | refine Y6 ?_ _)); refine (Below.heap_setCell _ ⟨_, _, none⟩ _ _ N_1.out).trans ?_; (with_reducible repeat (first | refine Y8 ?_ _ | refine Y7 ?_ | refine Y6 ?_ _)); refine (Below.heap_setCell _ ⟨_, _, none⟩ _ _ N_1.out).trans ?_; (with_reducible repeat (first | refine Y8 ?_ _ | refine Y7 ?_ | refine Y6 ?_ _)); refine (Below.heap_setCell _ ⟨_, _, none⟩ _ _ N_1.out).trans ?_; (with_reducible repeat (first | refine Y8 ?_ _ | refine Y7 ?_ | refine Y6 ?_ _)); exact B_2.out⟩
 have n5_ : Y0 (Below w.heap.size w (((((((w135.setCell ⟨g_0, 0, none⟩ (.int .i64 t_5)).setCell ⟨g_0, 1, none⟩ (.int .i64 t_6)).setCell ⟨g_0, 2, none⟩ (.int .i64 t_7)).setCell ⟨g_0, 3, none⟩ (.int .i64 t_8)).setCell ⟨g_0, 4, none⟩ (.int .i64 t_a)).setCell ⟨g_0, 5, none⟩ (.int .i64 t_b)).setCell ⟨g_0, 6, none⟩ (.int .i64 t_c))) := ⟨hU HB.out⟩
 (try clear O_0)
 (try clear O_1)
 (try clear B_0)
 (try clear B_1)
 (try clear B_2)
 (try clear HB)
 generalize (((((((w135.setCell ⟨g_0, 0, none⟩ (.int .i64 t_5)).setCell ⟨g_0, 1, none⟩ (.int .i64 t_6)).setCell ⟨g_0, 2, none⟩ (.int .i64 t_7)).setCell ⟨g_0, 3, none⟩ (.int .i64 t_8)).setCell ⟨g_0, 4, none⟩ (.int .i64 t_a)).setCell ⟨g_0, 5, none⟩ (.int .i64 t_b)).setCell ⟨g_0, 6, none⟩ (.int .i64 t_c)) = w143 at n0_ n1_ n2_ n3_ n4_ n5_ ⊢
 have O_0 := n0_
 have O_1 := n1_
 have B_0 := n2_
 have B_1 := n3_
 have B_2 := n4_
 have HB := n5_
 clear n0_ n1_ n2_ n3_ n4_ n5_
 have n0_ := Y0.mk (Kd.R_drew O_0.out)
 have n1_ := Y0.mk (Kd.R_drew O_1.out)
 have n2_ := Y0.mk (Y7 B_0.out)
 have n3_ := Y0.mk (Y7 B_1.out)
 have n4_ := Y0.mk (Y7 B_2.out)
 have n5_ := Y0.mk (Yv HB.out)
 clear O_0
 clear O_1
 clear B_0
 clear B_1
 clear B_2
 clear HB
 have O_0 := n0_
 have O_1 := n1_
 have B_0 := n2_
 have B_1 := n3_
 have B_2 := n4_
 have HB := n5_
 clear n0_ n1_ n2_ n3_ n4_ n5_
 refine Y19 (n := 11) (S := fun w' => w'.cell? ⟨g_1, 0, none⟩ = some (.int .i64 t_3) ∧ w'.cell? ⟨g_1, 1, none⟩ = some (.slice Ao65 t_0.length co65)) (ds := []) #[false, false, false, false, false, false, false, false, false, false, false] (by kernel_rfl) rfl rfl ⟨(Y2 B_0.out 0).trans rfl, (Y2 B_0.out 1).trans rfl⟩ (fun hHeld => ?_); refine YO Ya.tab17 Ya.bits17 (fun HT_ HW_ => ?_)
 generalize w143.drew = w144 at O_0 O_1 B_0 B_1 B_2 HB hHeld ⊢
 refine tkA 0 123 (bs 11 1) hHeld ?_
 refine join_ (σ := Value × Nat) 2 #[true, true, true, true, true, true, true, true, true, false, false] (fun s_ => [(124, .agg #[.int .i64 t349, .int .i64 t350]), (125, .agg #[.int .i64 t_y, .int .i64 t352]), (127, .tuple #[.agg #[.int .i64 t_9, s_.1], .int .i64 t357]), (12, .pointer (some ⟨s_.2, 0, none⟩)), (126, .agg #[.int .i64 t349, .int .i64 t350, .int .i64 0, .int .i64 t_y, .int .i64 t352, .bool true, .int .i64 0, .int .i64 0, .int .i64 0, .int .i64 0, .int .i64 0, .int .i64 0, .int .i64 0]), (122, .tuple #[.agg #[.int .i64 t_9, s_.1], .int .i64 t357]), (128, .agg #[.int .i64 t_9, s_.1]), (129, .int .i64 t357)]) (fun s_ w' => (w'.cell? ⟨g_1, 0, none⟩ = some (.int .i64 t_3) ∧ w'.cell? ⟨g_1, 1, none⟩ = some (.slice Ao65 t_0.length co65)) ∧ (Kd.R k30 30 w' w.heap.size (fun k_ => some k_ ≠ (.slice Ao127 t_1.length co127 : Value).ownBlock ∧ some k_ ≠ (s_.1 : Value).ownBlock) (.slice Ao65 t_0.length co65) t_0) ∧ (Kd.R k30 30 w' w.heap.size (fun k_ => some k_ ≠ (.slice Ao65 t_0.length co65 : Value).ownBlock ∧ some k_ ≠ (s_.1 : Value).ownBlock) (.slice Ao127 t_1.length co127) t_1) ∧ (Kd.R k30 30 w' w.heap.size (fun k_ => some k_ ≠ (.slice Ao65 t_0.length co65 : Value).ownBlock ∧ some k_ ≠ (.slice Ao127 t_1.length co127 : Value).ownBlock) s_.1 t_2) ∧ (w'.heap[g_1]? = some (.cells #[.int .i64 t_3, .slice Ao65 t_0.length co65] 24 (0, 0))) ∧ (w'.heap[g_0]? = some (.cells #[.int .i64 t_5, .int .i64 t_6, .int .i64 t_7, .int .i64 t_8, .int .i64 t_a, .int .i64 t_b, .int .i64 t_c] 28 (0, 0))) ∧ (w'.heap[g_3]? = some (.cells #[.int .i64 t_4, .slice Ao127 t_1.length co127] 24 (0, 0))) ∧ (w'.heap[s_.2]? = some (.cells #[.int .i64 0, .slice none 0 0] 24 (0, 0))) ∧ (w.heap.size ≤ s_.2) ∧ (w.heap.size ≤ s_.2) ∧ (g_1 ≠ s_.2) ∧ (s_.2 ≠ g_1) ∧ (g_0 ≠ s_.2) ∧ (s_.2 ≠ g_0) ∧ (g_3 ≠ s_.2) ∧ (s_.2 ≠ g_3) ∧ (Below w.heap.size w w')) ?_ ?_
 rotate_left
 ·intro hCont
  refine two_ (i := 1) (j := 8) (Ni := some 124) (Nj := some 12) #[true, true, false, false, false, false, false, false, false, false, false] #[true, false, false, false, false, false, false, false, true, false, false] rfl rfl rfl rfl (Y1w HT_.out (by kernel_rfl)) (by decide) (by decide) (fun K hK => ?_) (fun K hK => ?_)
  ·skip
   refine goes_ Try.func51 (by kernel_rfl) rfl #[.int .i64 4, .int .i64 2] (by rfl) rfl rfl (by (try simp only [List.map_toArray, List.map_cons, List.map_nil]); first | done | (go_simp; done) | rfl | (simp only [List.length_drop, List.length_take]; rfl)) ?_
   with_reducible refine (Yb.calls 4 2 t349 t350 _ A36.out).mono ?_
   rintro e w145 ⟨rfl, hb⟩
   refine ⟨_, rfl, ?_⟩
   replace O_0 := Y0.mk (Kd.R_below (Kd.rU O_0.out) hb)
   replace O_1 := Y0.mk (Kd.R_below (Kd.rU O_1.out) hb)
   replace B_0 := Y0.mk (Y3 (bU B_0.out) hb)
   replace B_1 := Y0.mk (Y3 (bU B_1.out) hb)
   replace B_2 := Y0.mk (Y3 (bU B_2.out) hb)
   replace HB := Y0.mk (Y5 (hU HB.out) hb)
   (try clear hb)
   (try clear hb2)
   (try clear hk)
   (try clear hi)
   refine hK.out _ _ ⟨(Y2 B_0.out 0).trans rfl, (Y2 B_0.out 1).trans rfl⟩ (fun hHeld => ?_)
   clear hK K
   refine nmA 124 ?_
   refine two_ (i := 2) (j := 8) (Ni := some 125) (Nj := some 12) #[true, true, true, false, false, false, false, false, false, false, false] #[true, true, false, false, false, false, false, false, true, false, false] rfl rfl rfl rfl (Y1w HT_.out (by kernel_rfl)) (by decide) (by decide) (fun K hK => ?_) (fun K hK => ?_)
   ·skip
    refine goes_ Try.func51 (by kernel_rfl) rfl #[.int .i64 9, .int .i64 1] (by rfl) rfl rfl (by (try simp only [List.map_toArray, List.map_cons, List.map_nil]); first | done | (go_simp; done) | rfl | (simp only [List.length_drop, List.length_take]; rfl)) ?_
    with_reducible refine (Yb.calls 9 1 t_y t352 _ A37.out).mono ?_
    rintro e w146 ⟨rfl, hb⟩
    refine ⟨_, rfl, ?_⟩
    replace O_0 := Y0.mk (Kd.R_below (Kd.rU O_0.out) hb)
    replace O_1 := Y0.mk (Kd.R_below (Kd.rU O_1.out) hb)
    replace B_0 := Y0.mk (Y3 (bU B_0.out) hb)
    replace B_1 := Y0.mk (Y3 (bU B_1.out) hb)
    replace B_2 := Y0.mk (Y3 (bU B_2.out) hb)
    replace HB := Y0.mk (Y5 (hU HB.out) hb)
    (try clear hb)
    (try clear hb2)
    (try clear hk)
    (try clear hi)
    refine hK.out _ _ ⟨(Y2 B_0.out 0).trans rfl, (Y2 B_0.out 1).trans rfl⟩ (fun hHeld => ?_)
    clear hK K
    refine nmA 125 ?_
    refine puA 3 126 (bs 11 15) ?_
    refine two_ (i := 4) (j := 8) (Ni := some 127) (Nj := some 12) #[true, true, true, true, true, false, false, false, false, false, false] #[true, true, true, true, false, false, false, false, true, false, false] rfl rfl rfl rfl (Y1w HT_.out (by kernel_rfl)) (by decide) (by decide) (fun K hK => ?_) (fun K hK => ?_)
    ·skip
     refine goes_ Try.func19 (by kernel_rfl) rfl #[.agg #[.int .i64 t_3, .slice Ao65 t_0.length co65], .agg #[.int .i64 t349, .int .i64 t350, .int .i64 0, .int .i64 t_y, .int .i64 t352, .bool true, .int .i64 0, .int .i64 0, .int .i64 0, .int .i64 0, .int .i64 0, .int .i64 0, .int .i64 0]] (by rfl) rfl rfl (by (try simp only [List.map_toArray, List.map_cons, List.map_nil]); first | done | (go_simp; done) | rfl | (simp only [List.length_drop, List.length_take]; rfl)) ?_
     with_reducible refine (YJ.calls t_3 _ _ t_0 t349 t350 0 t_y t352 true 0 0 0 0 0 0 0 t_9 t_2 t357 _ ?side1 ?side2 A38.out).mono ?_
     (case side1 => repeat (first | exact (Kd.R_reads' O_0.out).2.2 | (with_reducible refine Kd.C_alloc ?_ _) | (with_reducible refine Kd.C_drewN ?_ _) | (with_reducible refine Kd.C_drew ?_)))
     (case side2 => exact (Kd.R_reads' O_0.out).2.1)
     rintro e w147 ⟨v_1, rfl, ho0, hb⟩
     refine ⟨_, rfl, ?_⟩
     replace O_2 := Y0.mk (Kd.R_lower (Kd.R_new' (Kd.R_new' ho0 (Kd.R_lt (Kd.rU O_0.out))) (Kd.R_lt (Kd.rU O_1.out))) (Yh (hU HB.out)))
     replace O_0 := Y0.mk (Kd.R_elder' (Kd.rU O_0.out) (Kd.R_base ho0) hb)
     replace O_1 := Y0.mk (Kd.R_elder' (Kd.rU O_1.out) (Kd.R_base ho0) hb)
     replace B_0 := Y0.mk (Y3 (bU B_0.out) hb)
     replace B_1 := Y0.mk (Y3 (bU B_1.out) hb)
     replace B_2 := Y0.mk (Y3 (bU B_2.out) hb)
     replace HB := Y0.mk (Y5 (hU HB.out) hb)
     (try clear hb)
     (try clear hb2)
     (try clear hk)
     (try clear hi)
     (try clear ho0)
     refine hK.out _ _ ⟨(Y2 B_0.out 0).trans rfl, (Y2 B_0.out 1).trans rfl⟩ (fun hHeld => ?_)
     clear hK K
     refine nmA 127 ?_
     refine puA 5 122 (bs 11 63) ?_
     refine puA 6 128 (bs 11 127) ?_
     refine puA 7 129 (bs 11 255) ?_
     refine one_ (i := 8) (N := some 12) (bs 11 511) rfl rfl (YH HT_.out (by kernel_rfl)) (by decide) (fun K hK => ?_)
     refine YY ?hg (N := 12) ?hd (cs := #[.int .i64 0, .slice none 0 0]) (t := 24) ?hr ?_; (case hd => rfl); (case hg => rfl); (case hr => first | (go_simp; done) | (go_simp; rfl))
     intro g_4 hg w148 hbox hb
     have n0_ := Y0.mk (Kd.R_below (Kd.rU O_0.out) hb)
     have n1_ := Y0.mk (Kd.R_below (Kd.rU O_1.out) hb)
     have n2_ := Y0.mk (Kd.R_below (Kd.rU O_2.out) hb)
     have n3_ := Y0.mk (Y3 (bU B_0.out) hb)
     have n4_ := Y0.mk (Y3 (bU B_1.out) hb)
     have n5_ := Y0.mk (Y3 (bU B_2.out) hb)
     have n6_ := Y0.mk (Y5 (hU HB.out) hb)
     have n7_ := Y0.mk (hbox)
     have n8_ := gE hg HB
     have n9_ := gE hg HB
     have n10_ := gL hg B_0
     have n11_ := gG hg B_0
     have n12_ := gL hg B_1
     have n13_ := gG hg B_1
     have n14_ := gL hg B_2
     have n15_ := gG hg B_2
     clear O_0
     clear O_1
     clear O_2
     clear B_0
     clear B_1
     clear B_2
     clear HB
     have O_0 := n0_
     have O_1 := n1_
     have O_2 := n2_
     have B_0 := n3_
     have B_1 := n4_
     have B_2 := n5_
     have HB := n6_
     have B_3 := n7_
     have W_2 := n8_
     have G_2 := n9_
     have N_f := n10_
     have N_l := n11_
     have N_j := n12_
     have N_n := n13_
     have N_i := n14_
     have N_m := n15_
     clear n0_ n1_ n2_ n3_ n4_ n5_ n6_ n7_ n8_ n9_ n10_ n11_ n12_ n13_ n14_ n15_
     clear hb hbox hg
     refine hK.out _ _ ⟨(Y2 B_0.out 0).trans rfl, (Y2 B_0.out 1).trans rfl⟩ (fun hHeld => ?_)
     clear hK K
     refine nmA 12 ?_
     exact norm_ (by simp only [YB, Act.put, List.setIfInBounds_toArray, List.set_cons_zero, List.set_cons_succ]) (hCont (v_1, g_4) _ ⟨hHeld, (Kd.rU O_0.out), (Kd.rU O_1.out), (by (with_reducible repeat (first | apply Kd.R_alloc | apply Kd.R_drewN | apply Kd.R_drew)); exact Kd.R_mono O_2.out (fun _ hk => by revert hk; simp only [and_imp]; intros; (repeat' apply And.intro) <;> assumption)), (bU B_0.out), (bU B_1.out), (bU B_2.out), (bU B_3.out), W_2.out, G_2.out, N_f.out, N_l.out, N_j.out, N_n.out, N_i.out, N_m.out, (hU HB.out)⟩)
    ·skip
     refine YY ?hg (N := 12) ?hd (cs := #[.int .i64 0, .slice none 0 0]) (t := 24) ?hr ?_; (case hd => rfl); (case hg => rfl); (case hr => first | (go_simp; done) | (go_simp; rfl))
     intro g_4 hg w147 hbox hb
     have n0_ := Y0.mk (Kd.R_below (Kd.rU O_0.out) hb)
     have n1_ := Y0.mk (Kd.R_below (Kd.rU O_1.out) hb)
     have n2_ := Y0.mk (Y3 (bU B_0.out) hb)
     have n3_ := Y0.mk (Y3 (bU B_1.out) hb)
     have n4_ := Y0.mk (Y3 (bU B_2.out) hb)
     have n5_ := Y0.mk (Y5 (hU HB.out) hb)
     have n6_ := Y0.mk (hbox)
     have n7_ := gE hg HB
     have n8_ := gE hg HB
     have n9_ := gL hg B_0
     have n10_ := gG hg B_0
     have n11_ := gL hg B_1
     have n12_ := gG hg B_1
     have n13_ := gL hg B_2
     have n14_ := gG hg B_2
     clear O_0
     clear O_1
     clear B_0
     clear B_1
     clear B_2
     clear HB
     have O_0 := n0_
     have O_1 := n1_
     have B_0 := n2_
     have B_1 := n3_
     have B_2 := n4_
     have HB := n5_
     have B_3 := n6_
     have W_2 := n7_
     have G_2 := n8_
     have N_f := n9_
     have N_l := n10_
     have N_j := n11_
     have N_n := n12_
     have N_i := n13_
     have N_m := n14_
     clear n0_ n1_ n2_ n3_ n4_ n5_ n6_ n7_ n8_ n9_ n10_ n11_ n12_ n13_ n14_
     clear hb hbox hg
     refine hK.out _ _ ⟨(Y2 B_0.out 0).trans rfl, (Y2 B_0.out 1).trans rfl⟩ (fun hHeld => ?_)
     clear hK K
     refine nmA 12 ?_
     refine one_ (i := 4) (N := some 127) (bs 11 287) rfl rfl (YH HT_.out (by kernel_rfl)) (by decide) (fun K hK => ?_)
     refine goes_ Try.func19 (by kernel_rfl) rfl #[.agg #[.int .i64 t_3, .slice Ao65 t_0.length co65], .agg #[.int .i64 t349, .int .i64 t350, .int .i64 0, .int .i64 t_y, .int .i64 t352, .bool true, .int .i64 0, .int .i64 0, .int .i64 0, .int .i64 0, .int .i64 0, .int .i64 0, .int .i64 0]] (by rfl) rfl rfl (by (try simp only [List.map_toArray, List.map_cons, List.map_nil]); first | done | (go_simp; done) | rfl | (simp only [List.length_drop, List.length_take]; rfl)) ?_
     with_reducible refine (YJ.calls t_3 _ _ t_0 t349 t350 0 t_y t352 true 0 0 0 0 0 0 0 t_9 t_2 t357 _ ?side1 ?side2 A38.out).mono ?_
     (case side1 => repeat (first | exact (Kd.R_reads' O_0.out).2.2 | (with_reducible refine Kd.C_alloc ?_ _) | (with_reducible refine Kd.C_drewN ?_ _) | (with_reducible refine Kd.C_drew ?_)))
     (case side2 => exact (Kd.R_reads' O_0.out).2.1)
     rintro e w148 ⟨v_1, rfl, ho0, hb⟩
     refine ⟨_, rfl, ?_⟩
     replace O_2 := Y0.mk (Kd.R_lower (Kd.R_new' (Kd.R_new' ho0 (Kd.R_lt (Kd.rU O_0.out))) (Kd.R_lt (Kd.rU O_1.out))) (Yh (hU HB.out)))
     replace O_0 := Y0.mk (Kd.R_elder' (Kd.rU O_0.out) (Kd.R_base ho0) hb)
     replace O_1 := Y0.mk (Kd.R_elder' (Kd.rU O_1.out) (Kd.R_base ho0) hb)
     replace B_0 := Y0.mk (Y3 (bU B_0.out) hb)
     replace B_1 := Y0.mk (Y3 (bU B_1.out) hb)
     replace B_2 := Y0.mk (Y3 (bU B_2.out) hb)
     replace B_3 := Y0.mk (Y3 (bU B_3.out) hb)
     replace HB := Y0.mk (Y5 (hU HB.out) hb)
     (try clear hb)
     (try clear hb2)
     (try clear hk)
     (try clear hi)
     (try clear ho0)
     refine hK.out _ _ ⟨(Y2 B_0.out 0).trans rfl, (Y2 B_0.out 1).trans rfl⟩ (fun hHeld => ?_)
     clear hK K
     refine nmA 127 ?_
     refine puA 5 122 (bs 11 319) ?_
     refine puA 6 128 (bs 11 383) ?_
     refine puA 7 129 (bs 11 511) ?_
     exact norm_ (by simp only [YB, Act.put, List.setIfInBounds_toArray, List.set_cons_zero, List.set_cons_succ]) (hCont (v_1, g_4) _ ⟨hHeld, (Kd.rU O_0.out), (Kd.rU O_1.out), (by (with_reducible repeat (first | apply Kd.R_alloc | apply Kd.R_drewN | apply Kd.R_drew)); exact Kd.R_mono O_2.out (fun _ hk => by revert hk; simp only [and_imp]; intros; (repeat' apply And.intro) <;> assumption)), (bU B_0.out), (bU B_1.out), (bU B_2.out), (bU B_3.out), W_2.out, G_2.out, N_f.out, N_l.out, N_j.out, N_n.out, N_i.out, N_m.out, (hU HB.out)⟩)
   ·skip
    refine YY ?hg (N := 12) ?hd (cs := #[.int .i64 0, .slice none 0 0]) (t := 24) ?hr ?_; (case hd => rfl); (case hg => rfl); (case hr => first | (go_simp; done) | (go_simp; rfl))
    intro g_4 hg w146 hbox hb
    have n0_ := Y0.mk (Kd.R_below (Kd.rU O_0.out) hb)
    have n1_ := Y0.mk (Kd.R_below (Kd.rU O_1.out) hb)
    have n2_ := Y0.mk (Y3 (bU B_0.out) hb)
    have n3_ := Y0.mk (Y3 (bU B_1.out) hb)
    have n4_ := Y0.mk (Y3 (bU B_2.out) hb)
    have n5_ := Y0.mk (Y5 (hU HB.out) hb)
    have n6_ := Y0.mk (hbox)
    have n7_ := gE hg HB
    have n8_ := gE hg HB
    have n9_ := gL hg B_0
    have n10_ := gG hg B_0
    have n11_ := gL hg B_1
    have n12_ := gG hg B_1
    have n13_ := gL hg B_2
    have n14_ := gG hg B_2
    clear O_0
    clear O_1
    clear B_0
    clear B_1
    clear B_2
    clear HB
    have O_0 := n0_
    have O_1 := n1_
    have B_0 := n2_
    have B_1 := n3_
    have B_2 := n4_
    have HB := n5_
    have B_3 := n6_
    have W_2 := n7_
    have G_2 := n8_
    have N_f := n9_
    have N_l := n10_
    have N_j := n11_
    have N_n := n12_
    have N_i := n13_
    have N_m := n14_
    clear n0_ n1_ n2_ n3_ n4_ n5_ n6_ n7_ n8_ n9_ n10_ n11_ n12_ n13_ n14_
    clear hb hbox hg
    refine hK.out _ _ ⟨(Y2 B_0.out 0).trans rfl, (Y2 B_0.out 1).trans rfl⟩ (fun hHeld => ?_)
    clear hK K
    refine nmA 12 ?_
    refine one_ (i := 2) (N := some 125) (bs 11 263) rfl rfl (YH HT_.out (by kernel_rfl)) (by decide) (fun K hK => ?_)
    refine goes_ Try.func51 (by kernel_rfl) rfl #[.int .i64 9, .int .i64 1] (by rfl) rfl rfl (by (try simp only [List.map_toArray, List.map_cons, List.map_nil]); first | done | (go_simp; done) | rfl | (simp only [List.length_drop, List.length_take]; rfl)) ?_
    with_reducible refine (Yb.calls 9 1 t_y t352 _ A37.out).mono ?_
    rintro e w147 ⟨rfl, hb⟩
    refine ⟨_, rfl, ?_⟩
    replace O_0 := Y0.mk (Kd.R_below (Kd.rU O_0.out) hb)
    replace O_1 := Y0.mk (Kd.R_below (Kd.rU O_1.out) hb)
    replace B_0 := Y0.mk (Y3 (bU B_0.out) hb)
    replace B_1 := Y0.mk (Y3 (bU B_1.out) hb)
    replace B_2 := Y0.mk (Y3 (bU B_2.out) hb)
    replace B_3 := Y0.mk (Y3 (bU B_3.out) hb)
    replace HB := Y0.mk (Y5 (hU HB.out) hb)
    (try clear hb)
    (try clear hb2)
    (try clear hk)
    (try clear hi)
    refine hK.out _ _ ⟨(Y2 B_0.out 0).trans rfl, (Y2 B_0.out 1).trans rfl⟩ (fun hHeld => ?_)
    clear hK K
    refine nmA 125 ?_
    refine puA 3 126 (bs 11 271) ?_
    refine one_ (i := 4) (N := some 127) (bs 11 287) rfl rfl (YH HT_.out (by kernel_rfl)) (by decide) (fun K hK => ?_)
    refine goes_ Try.func19 (by kernel_rfl) rfl #[.agg #[.int .i64 t_3, .slice Ao65 t_0.length co65], .agg #[.int .i64 t349, .int .i64 t350, .int .i64 0, .int .i64 t_y, .int .i64 t352, .bool true, .int .i64 0, .int .i64 0, .int .i64 0, .int .i64 0, .int .i64 0, .int .i64 0, .int .i64 0]] (by rfl) rfl rfl (by (try simp only [List.map_toArray, List.map_cons, List.map_nil]); first | done | (go_simp; done) | rfl | (simp only [List.length_drop, List.length_take]; rfl)) ?_
    with_reducible refine (YJ.calls t_3 _ _ t_0 t349 t350 0 t_y t352 true 0 0 0 0 0 0 0 t_9 t_2 t357 _ ?side1 ?side2 A38.out).mono ?_
    (case side1 => repeat (first | exact (Kd.R_reads' O_0.out).2.2 | (with_reducible refine Kd.C_alloc ?_ _) | (with_reducible refine Kd.C_drewN ?_ _) | (with_reducible refine Kd.C_drew ?_)))
    (case side2 => exact (Kd.R_reads' O_0.out).2.1)
    rintro e w148 ⟨v_1, rfl, ho0, hb⟩
    refine ⟨_, rfl, ?_⟩
    replace O_2 := Y0.mk (Kd.R_lower (Kd.R_new' (Kd.R_new' ho0 (Kd.R_lt (Kd.rU O_0.out))) (Kd.R_lt (Kd.rU O_1.out))) (Yh (hU HB.out)))
    replace O_0 := Y0.mk (Kd.R_elder' (Kd.rU O_0.out) (Kd.R_base ho0) hb)
    replace O_1 := Y0.mk (Kd.R_elder' (Kd.rU O_1.out) (Kd.R_base ho0) hb)
    replace B_0 := Y0.mk (Y3 (bU B_0.out) hb)
    replace B_1 := Y0.mk (Y3 (bU B_1.out) hb)
    replace B_2 := Y0.mk (Y3 (bU B_2.out) hb)
    replace B_3 := Y0.mk (Y3 (bU B_3.out) hb)
    replace HB := Y0.mk (Y5 (hU HB.out) hb)
    (try clear hb)
    (try clear hb2)
    (try clear hk)
    (try clear hi)
    (try clear ho0)
    refine hK.out _ _ ⟨(Y2 B_0.out 0).trans rfl, (Y2 B_0.out 1).trans rfl⟩ (fun hHeld => ?_)
    clear hK K
    refine nmA 127 ?_
    refine puA 5 122 (bs 11 319) ?_
    refine puA 6 128 (bs 11 383) ?_
    refine puA 7 129 (bs 11 511) ?_
    exact norm_ (by simp only [YB, Act.put, List.setIfInBounds_toArray, List.set_cons_zero, List.set_cons_succ]) (hCont (v_1, g_4) _ ⟨hHeld, (Kd.rU O_0.out), (Kd.rU O_1.out), (by (with_reducible repeat (first | apply Kd.R_alloc | apply Kd.R_drewN | apply Kd.R_drew)); exact Kd.R_mono O_2.out (fun _ hk => by revert hk; simp only [and_imp]; intros; (repeat' apply And.intro) <;> assumption)), (bU B_0.out), (bU B_1.out), (bU B_2.out), (bU B_3.out), W_2.out, G_2.out, N_f.out, N_l.out, N_j.out, N_n.out, N_i.out, N_m.out, (hU HB.out)⟩)
  ·skip
   refine YY ?hg (N := 12) ?hd (cs := #[.int .i64 0, .slice none 0 0]) (t := 24) ?hr ?_; (case hd => rfl); (case hg => rfl); (case hr => first | (go_simp; done) | (go_simp; rfl))
   intro g_4 hg w145 hbox hb
   have n0_ := Y0.mk (Kd.R_below (Kd.rU O_0.out) hb)
   have n1_ := Y0.mk (Kd.R_below (Kd.rU O_1.out) hb)
   have n2_ := Y0.mk (Y3 (bU B_0.out) hb)
   have n3_ := Y0.mk (Y3 (bU B_1.out) hb)
   have n4_ := Y0.mk (Y3 (bU B_2.out) hb)
   have n5_ := Y0.mk (Y5 (hU HB.out) hb)
   have n6_ := Y0.mk (hbox)
   have n7_ := gE hg HB
   have n8_ := gE hg HB
   have n9_ := gL hg B_0
   have n10_ := gG hg B_0
   have n11_ := gL hg B_1
   have n12_ := gG hg B_1
   have n13_ := gL hg B_2
   have n14_ := gG hg B_2
   clear O_0
   clear O_1
   clear B_0
   clear B_1
   clear B_2
   clear HB
   have O_0 := n0_
   have O_1 := n1_
   have B_0 := n2_
   have B_1 := n3_
   have B_2 := n4_
   have HB := n5_
   have B_3 := n6_
   have W_2 := n7_
   have G_2 := n8_
   have N_f := n9_
   have N_l := n10_
   have N_j := n11_
   have N_n := n12_
   have N_i := n13_
   have N_m := n14_
   clear n0_ n1_ n2_ n3_ n4_ n5_ n6_ n7_ n8_ n9_ n10_ n11_ n12_ n13_ n14_
   clear hb hbox hg
   refine hK.out _ _ ⟨(Y2 B_0.out 0).trans rfl, (Y2 B_0.out 1).trans rfl⟩ (fun hHeld => ?_)
   clear hK K
   refine nmA 12 ?_
   refine one_ (i := 1) (N := some 124) (bs 11 259) rfl rfl (YH HT_.out (by kernel_rfl)) (by decide) (fun K hK => ?_)
   refine goes_ Try.func51 (by kernel_rfl) rfl #[.int .i64 4, .int .i64 2] (by rfl) rfl rfl (by (try simp only [List.map_toArray, List.map_cons, List.map_nil]); first | done | (go_simp; done) | rfl | (simp only [List.length_drop, List.length_take]; rfl)) ?_
   with_reducible refine (Yb.calls 4 2 t349 t350 _ A36.out).mono ?_
   rintro e w146 ⟨rfl, hb⟩
   refine ⟨_, rfl, ?_⟩
   replace O_0 := Y0.mk (Kd.R_below (Kd.rU O_0.out) hb)
   replace O_1 := Y0.mk (Kd.R_below (Kd.rU O_1.out) hb)
   replace B_0 := Y0.mk (Y3 (bU B_0.out) hb)
   replace B_1 := Y0.mk (Y3 (bU B_1.out) hb)
   replace B_2 := Y0.mk (Y3 (bU B_2.out) hb)
   replace B_3 := Y0.mk (Y3 (bU B_3.out) hb)
   replace HB := Y0.mk (Y5 (hU HB.out) hb)
   (try clear hb)
   (try clear hb2)
   (try clear hk)
   (try clear hi)
   refine hK.out _ _ ⟨(Y2 B_0.out 0).trans rfl, (Y2 B_0.out 1).trans rfl⟩ (fun hHeld => ?_)
   clear hK K
   refine nmA 124 ?_
   refine one_ (i := 2) (N := some 125) (bs 11 263) rfl rfl (YH HT_.out (by kernel_rfl)) (by decide) (fun K hK => ?_)
   refine goes_ Try.func51 (by kernel_rfl) rfl #[.int .i64 9, .int .i64 1] (by rfl) rfl rfl (by (try simp only [List.map_toArray, List.map_cons, List.map_nil]); first | done | (go_simp; done) | rfl | (simp only [List.length_drop, List.length_take]; rfl)) ?_
   with_reducible refine (Yb.calls 9 1 t_y t352 _ A37.out).mono ?_
   rintro e w147 ⟨rfl, hb⟩
   refine ⟨_, rfl, ?_⟩
   replace O_0 := Y0.mk (Kd.R_below (Kd.rU O_0.out) hb)
   replace O_1 := Y0.mk (Kd.R_below (Kd.rU O_1.out) hb)
   replace B_0 := Y0.mk (Y3 (bU B_0.out) hb)
   replace B_1 := Y0.mk (Y3 (bU B_1.out) hb)
   replace B_2 := Y0.mk (Y3 (bU B_2.out) hb)
   replace B_3 := Y0.mk (Y3 (bU B_3.out) hb)
   replace HB := Y0.mk (Y5 (hU HB.out) hb)
   (try clear hb)
   (try clear hb2)
   (try clear hk)
   (try clear hi)
   refine hK.out _ _ ⟨(Y2 B_0.out 0).trans rfl, (Y2 B_0.out 1).trans rfl⟩ (fun hHeld => ?_)
   clear hK K
   refine nmA 125 ?_
   refine puA 3 126 (bs 11 271) ?_
   refine one_ (i := 4) (N := some 127) (bs 11 287) rfl rfl (YH HT_.out (by kernel_rfl)) (by decide) (fun K hK => ?_)
   refine goes_ Try.func19 (by kernel_rfl) rfl #[.agg #[.int .i64 t_3, .slice Ao65 t_0.length co65], .agg #[.int .i64 t349, .int .i64 t350, .int .i64 0, .int .i64 t_y, .int .i64 t352, .bool true, .int .i64 0, .int .i64 0, .int .i64 0, .int .i64 0, .int .i64 0, .int .i64 0, .int .i64 0]] (by rfl) rfl rfl (by (try simp only [List.map_toArray, List.map_cons, List.map_nil]); first | done | (go_simp; done) | rfl | (simp only [List.length_drop, List.length_take]; rfl)) ?_
   with_reducible refine (YJ.calls t_3 _ _ t_0 t349 t350 0 t_y t352 true 0 0 0 0 0 0 0 t_9 t_2 t357 _ ?side1 ?side2 A38.out).mono ?_
   (case side1 => repeat (first | exact (Kd.R_reads' O_0.out).2.2 | (with_reducible refine Kd.C_alloc ?_ _) | (with_reducible refine Kd.C_drewN ?_ _) | (with_reducible refine Kd.C_drew ?_)))
   (case side2 => exact (Kd.R_reads' O_0.out).2.1)
   rintro e w148 ⟨v_1, rfl, ho0, hb⟩
   refine ⟨_, rfl, ?_⟩
   replace O_2 := Y0.mk (Kd.R_lower (Kd.R_new' (Kd.R_new' ho0 (Kd.R_lt (Kd.rU O_0.out))) (Kd.R_lt (Kd.rU O_1.out))) (Yh (hU HB.out)))
   replace O_0 := Y0.mk (Kd.R_elder' (Kd.rU O_0.out) (Kd.R_base ho0) hb)
   replace O_1 := Y0.mk (Kd.R_elder' (Kd.rU O_1.out) (Kd.R_base ho0) hb)
   replace B_0 := Y0.mk (Y3 (bU B_0.out) hb)
   replace B_1 := Y0.mk (Y3 (bU B_1.out) hb)
   replace B_2 := Y0.mk (Y3 (bU B_2.out) hb)
   replace B_3 := Y0.mk (Y3 (bU B_3.out) hb)
   replace HB := Y0.mk (Y5 (hU HB.out) hb)
   (try clear hb)
   (try clear hb2)
   (try clear hk)
   (try clear hi)
   (try clear ho0)
   refine hK.out _ _ ⟨(Y2 B_0.out 0).trans rfl, (Y2 B_0.out 1).trans rfl⟩ (fun hHeld => ?_)
   clear hK K
   refine nmA 127 ?_
   refine puA 5 122 (bs 11 319) ?_
   refine puA 6 128 (bs 11 383) ?_
   refine puA 7 129 (bs 11 511) ?_
   exact norm_ (by simp only [YB, Act.put, List.setIfInBounds_toArray, List.set_cons_zero, List.set_cons_succ]) (hCont (v_1, g_4) _ ⟨hHeld, (Kd.rU O_0.out), (Kd.rU O_1.out), (by (with_reducible repeat (first | apply Kd.R_alloc | apply Kd.R_drewN | apply Kd.R_drew)); exact Kd.R_mono O_2.out (fun _ hk => by revert hk; simp only [and_imp]; intros; (repeat' apply And.intro) <;> assumption)), (bU B_0.out), (bU B_1.out), (bU B_2.out), (bU B_3.out), W_2.out, G_2.out, N_f.out, N_l.out, N_j.out, N_n.out, N_i.out, N_m.out, (hU HB.out)⟩)
 rintro ⟨v_1, g_4⟩ w149 ⟨hS_, h0_, h1_, h2_, h3_, h4_, h5_, h6_, h7_, h8_, h9_, h10_, h11_, h12_, h13_, h14_, h15_⟩
 have n0_ : Y0 (Kd.R k30 30 w149 w.heap.size (fun k_ => some k_ ≠ (.slice Ao127 t_1.length co127 : Value).ownBlock ∧ some k_ ≠ (v_1 : Value).ownBlock) (.slice Ao65 t_0.length co65) t_0) := ⟨h0_⟩
 have n1_ : Y0 (Kd.R k30 30 w149 w.heap.size (fun k_ => some k_ ≠ (.slice Ao65 t_0.length co65 : Value).ownBlock ∧ some k_ ≠ (v_1 : Value).ownBlock) (.slice Ao127 t_1.length co127) t_1) := ⟨h1_⟩
 have n2_ : Y0 (Kd.R k30 30 w149 w.heap.size (fun k_ => some k_ ≠ (.slice Ao65 t_0.length co65 : Value).ownBlock ∧ some k_ ≠ (.slice Ao127 t_1.length co127 : Value).ownBlock) v_1 t_2) := ⟨h2_⟩
 have n3_ : Y0 (w149.heap[g_1]? = some (.cells #[.int .i64 t_3, .slice Ao65 t_0.length co65] 24 (0, 0))) := ⟨h3_⟩
 have n4_ : Y0 (w149.heap[g_0]? = some (.cells #[.int .i64 t_5, .int .i64 t_6, .int .i64 t_7, .int .i64 t_8, .int .i64 t_a, .int .i64 t_b, .int .i64 t_c] 28 (0, 0))) := ⟨h4_⟩
 have n5_ : Y0 (w149.heap[g_3]? = some (.cells #[.int .i64 t_4, .slice Ao127 t_1.length co127] 24 (0, 0))) := ⟨h5_⟩
 have n6_ : Y0 (w149.heap[g_4]? = some (.cells #[.int .i64 0, .slice none 0 0] 24 (0, 0))) := ⟨h6_⟩
 have n7_ : Y0 (w.heap.size ≤ g_4) := ⟨h7_⟩
 have n8_ : Y0 (w.heap.size ≤ g_4) := ⟨h8_⟩
 have n9_ : Y0 (g_1 ≠ g_4) := ⟨h9_⟩
 have n10_ : Y0 (g_4 ≠ g_1) := ⟨h10_⟩
 have n11_ : Y0 (g_0 ≠ g_4) := ⟨h11_⟩
 have n12_ : Y0 (g_4 ≠ g_0) := ⟨h12_⟩
 have n13_ : Y0 (g_3 ≠ g_4) := ⟨h13_⟩
 have n14_ : Y0 (g_4 ≠ g_3) := ⟨h14_⟩
 have n15_ : Y0 (Below w.heap.size w w149) := ⟨h15_⟩
 clear O_0
 clear O_1
 clear B_0
 clear B_1
 clear B_2
 clear HB
 clear h0_ h1_ h2_ h3_ h4_ h5_ h6_ h7_ h8_ h9_ h10_ h11_ h12_ h13_ h14_ h15_
 have O_0 := n0_
 have O_1 := n1_
 have O_2 := n2_
 have B_0 := n3_
 have B_1 := n4_
 have B_2 := n5_
 have B_3 := n6_
 have W_2 := n7_
 have G_2 := n8_
 have N_f := n9_
 have N_l := n10_
 have N_j := n11_
 have N_n := n12_
 have N_i := n13_
 have N_m := n14_
 have HB := n15_
 clear n0_ n1_ n2_ n3_ n4_ n5_ n6_ n7_ n8_ n9_ n10_ n11_ n12_ n13_ n14_ n15_
 have hHeld : w149.cell? ⟨g_1, 0, none⟩ = some (.int .i64 t_3) ∧ w149.cell? ⟨g_1, 1, none⟩ = some (.slice Ao65 t_0.length co65) := hS_
 obtain ⟨Ao151, co151, eo151⟩ := Kd.R_slice O_2.out
 (first | subst eo151 | (injection eo151 with f1_ f2_ f3_; have f4_ := f1_.symm; have f5_ := f3_.symm; clear f1_ f2_ f3_; subst f4_; subst f5_))
 refine norm_ (a' := ?_) ?_ ?_
 rotate_left
 ·simp only [YB, Act.put, List.setIfInBounds_toArray, List.set_cons_zero, List.set_cons_succ]
  rfl
 refine one_ (i := 9) (N := none) #[true, true, true, true, true, true, true, true, true, true, false] rfl rfl (YH HT_.out (by kernel_rfl)) (by decide) (fun K hK => ?_)
 have hs150 : w149.cell? ⟨g_4, 0, none⟩ = some (.int .i64 0) := (Y2 B_3.out 0).trans rfl
 have hfs150 := Y4 B_3.out 0
 have hns150_0 := N_f.out
 have hns150_1 := N_j.out
 have hns150_2 := N_i.out
 have hms150_0 := N_l.out
 have hms150_1 := N_n.out
 have hms150_2 := N_m.out
 have hs152 : w149.cell? ⟨g_4, 1, none⟩ = some (.slice none 0 0) := (Y2 B_3.out 1).trans rfl
 have hfs152 := Y4 B_3.out 1
 have hns152_0 := N_f.out
 have hns152_1 := N_j.out
 have hns152_2 := N_i.out
 have hms152_0 := N_l.out
 have hms152_1 := N_n.out
 have hms152_2 := N_m.out
 refine skip_ (w1 := ?_) (by rfl) rfl ?_ ?_
 rotate_left
 ·go_simp
  rfl
 refine hK.out _ _ ⟨(cf2 (g := g_4) N_f.out (hHeld.1)), (cf2 (g := g_4) N_f.out (hHeld.2))⟩ (fun hHeld => ?_)
 clear hK K
 refine puA 10 13 (bs 11 2047) ?_
 refine done_ (Y17 HT_.out (by kernel_rfl)) ?_
 try go_wp2
 have n0_ : Y0 (Kd.R k30 30 ((w149.setCell ⟨g_4, 0, none⟩ (.int .i64 t_9)).setCell ⟨g_4, 1, none⟩ (.slice Ao151 t_2.length co151)) w.heap.size (fun k_ => some k_ ≠ (.slice Ao127 t_1.length co127 : Value).ownBlock ∧ some k_ ≠ (.slice Ao151 t_2.length co151 : Value).ownBlock) (.slice Ao65 t_0.length co65) t_0) := ⟨by (with_reducible repeat (first | apply Kd.R_alloc | apply Kd.R_drewN | apply Kd.R_drew)); exact Kd.R_mono (rf2 (g := g_4) (Kd.R_types O_0.out B_3.out (by decide)) (fun _ hk => hk.2)) (fun _ hk => by revert hk; simp only [and_imp]; intros; (repeat' apply And.intro) <;> assumption)⟩
 have n1_ : Y0 (Kd.R k30 30 ((w149.setCell ⟨g_4, 0, none⟩ (.int .i64 t_9)).setCell ⟨g_4, 1, none⟩ (.slice Ao151 t_2.length co151)) w.heap.size (fun k_ => some k_ ≠ (.slice Ao65 t_0.length co65 : Value).ownBlock ∧ some k_ ≠ (.slice Ao151 t_2.length co151 : Value).ownBlock) (.slice Ao127 t_1.length co127) t_1) := ⟨by (with_reducible repeat (first | apply Kd.R_alloc | apply Kd.R_drewN | apply Kd.R_drew)); exact Kd.R_mono (rf2 (g := g_4) (Kd.R_types O_1.out B_3.out (by decide)) (fun _ hk => hk.2)) (fun _ hk => by revert hk; simp only [and_imp]; intros; (repeat' apply And.intro) <;> assumption)⟩
 have n2_ : Y0 (Kd.R k30 30 ((w149.setCell ⟨g_4, 0, none⟩ (.int .i64 t_9)).setCell ⟨g_4, 1, none⟩ (.slice Ao151 t_2.length co151)) w.heap.size (fun k_ => some k_ ≠ (.slice Ao65 t_0.length co65 : Value).ownBlock ∧ some k_ ≠ (.slice Ao127 t_1.length co127 : Value).ownBlock) (.slice Ao151 t_2.length co151) t_2) := ⟨by (with_reducible repeat (first | apply Kd.R_alloc | apply Kd.R_drewN | apply Kd.R_drew)); exact Kd.R_mono (rf2 (g := g_4) (Kd.R_types O_2.out B_3.out (by decide)) (fun _ hk => hk.2)) (fun _ hk => by revert hk; simp only [and_imp]; intros; (repeat' apply And.intro) <;> assumption)⟩
 have n3_ : Y0 (((w149.setCell ⟨g_4, 0, none⟩ (.int .i64 t_9)).setCell ⟨g_4, 1, none⟩ (.slice Ao151 t_2.length co151)).heap[g_1]? = some (.cells #[.int .i64 t_3, .slice Ao65 t_0.length co65] 24 (0, 0))) := ⟨by (with_reducible repeat (first | refine Y8 ?_ _ | refine Y7 ?_ | refine Y6 ?_ _)); refine (Below.heap_setCell _ ⟨_, _, none⟩ _ _ N_f.out).trans ?_; (with_reducible repeat (first | refine Y8 ?_ _ | refine Y7 ?_ | refine Y6 ?_ _)); refine (Below.heap_setCell _ ⟨_, _, none⟩ _ _ N_f.out).trans ?_; (with_reducible repeat (first | refine Y8 ?_ _ | refine Y7 ?_ | refine Y6 ?_ _)); exact B_0.out⟩
 have n4_ : Y0 (((w149.setCell ⟨g_4, 0, none⟩ (.int .i64 t_9)).setCell ⟨g_4, 1, none⟩ (.slice Ao151 t_2.length co151)).heap[g_0]? = some (.cells #[.int .i64 t_5, .int .i64 t_6, .int .i64 t_7, .int .i64 t_8, .int .i64 t_a, .int .i64 t_b, .int .i64 t_c] 28 (0, 0))) := ⟨by (with_reducible repeat (first | refine Y8 ?_ _ | refine Y7 ?_ | refine Y6 ?_ _)); refine (Below.heap_setCell _ ⟨_, _, none⟩ _ _ N_j.out).trans ?_; (with_reducible repeat (first | refine Y8 ?_ _ | refine Y7 ?_ | refine Y6 ?_ _)); refine (Below.heap_setCell _ ⟨_, _, none⟩ _ _ N_j.out).trans ?_; (with_reducible repeat (first | refine Y8 ?_ _ | refine Y7 ?_ | refine Y6 ?_ _)); exact B_1.out⟩
 have n5_ : Y0 (((w149.setCell ⟨g_4, 0, none⟩ (.int .i64 t_9)).setCell ⟨g_4, 1, none⟩ (.slice Ao151 t_2.length co151)).heap[g_3]? = some (.cells #[.int .i64 t_4, .slice Ao127 t_1.length co127] 24 (0, 0))) := ⟨by (with_reducible repeat (first | refine Y8 ?_ _ | refine Y7 ?_ | refine Y6 ?_ _)); refine (Below.heap_setCell _ ⟨_, _, none⟩ _ _ N_i.out).trans ?_; (with_reducible repeat (first | refine Y8 ?_ _ | refine Y7 ?_ | refine Y6 ?_ _)); refine (Below.heap_setCell _ ⟨_, _, none⟩ _ _ N_i.out).trans ?_; (with_reducible repeat (first | refine Y8 ?_ _ | refine Y7 ?_ | refine Y6 ?_ _)); exact B_2.out⟩
 have n6_ : Y0 (((w149.setCell ⟨g_4, 0, none⟩ (.int .i64 t_9)).setCell ⟨g_4, 1, none⟩ (.slice Ao151 t_2.length co151)).heap[g_4]? = some (.cells #[.int .i64 t_9, .slice Ao151 t_2.length co151] 24 (0, 0))) := ⟨by (with_reducible repeat (first | refine Y8 ?_ _ | refine Y7 ?_ | refine Y6 ?_ _)); refine Yn (cs := #[.int .i64 t_9, .slice none 0 0]) ?_ 1 _ rfl; (with_reducible repeat (first | refine Y8 ?_ _ | refine Y7 ?_ | refine Y6 ?_ _)); refine Yn (cs := #[.int .i64 0, .slice none 0 0]) ?_ 0 _ rfl; (with_reducible repeat (first | refine Y8 ?_ _ | refine Y7 ?_ | refine Y6 ?_ _)); exact B_3.out⟩
 have n7_ : Y0 (Below w.heap.size w ((w149.setCell ⟨g_4, 0, none⟩ (.int .i64 t_9)).setCell ⟨g_4, 1, none⟩ (.slice Ao151 t_2.length co151))) := ⟨hU HB.out⟩
 (try clear O_0)
 (try clear O_1)
 (try clear O_2)
 (try clear B_0)
 (try clear B_1)
 (try clear B_2)
 (try clear B_3)
 (try clear HB)
 generalize ((w149.setCell ⟨g_4, 0, none⟩ (.int .i64 t_9)).setCell ⟨g_4, 1, none⟩ (.slice Ao151 t_2.length co151)) = w153 at n0_ n1_ n2_ n3_ n4_ n5_ n6_ n7_ ⊢
 have O_0 := n0_
 have O_1 := n1_
 have O_2 := n2_
 have B_0 := n3_
 have B_1 := n4_
 have B_2 := n5_
 have B_3 := n6_
 have HB := n7_
 clear n0_ n1_ n2_ n3_ n4_ n5_ n6_ n7_
 have n0_ := Y0.mk (Kd.R_drew O_0.out)
 have n1_ := Y0.mk (Kd.R_drew O_1.out)
 have n2_ := Y0.mk (Kd.R_drew O_2.out)
 have n3_ := Y0.mk (Y7 B_0.out)
 have n4_ := Y0.mk (Y7 B_1.out)
 have n5_ := Y0.mk (Y7 B_2.out)
 have n6_ := Y0.mk (Y7 B_3.out)
 have n7_ := Y0.mk (Yv HB.out)
 clear O_0
 clear O_1
 clear O_2
 clear B_0
 clear B_1
 clear B_2
 clear B_3
 clear HB
 have O_0 := n0_
 have O_1 := n1_
 have O_2 := n2_
 have B_0 := n3_
 have B_1 := n4_
 have B_2 := n5_
 have B_3 := n6_
 have HB := n7_
 clear n0_ n1_ n2_ n3_ n4_ n5_ n6_ n7_
 refine Y19 (n := 12) (S := fun w' => w'.cell? ⟨g_1, 0, none⟩ = some (.int .i64 t_3) ∧ w'.cell? ⟨g_1, 1, none⟩ = some (.slice Ao65 t_0.length co65)) (ds := []) #[false, false, false, false, false, false, false, false, false, false, false, false] (by kernel_rfl) rfl rfl ⟨(Y2 B_0.out 0).trans rfl, (Y2 B_0.out 1).trans rfl⟩ (fun hHeld => ?_); refine YO Ya.tab18 Ya.bits18 (fun HT_ HW_ => ?_)
 generalize w153.drew = w154 at O_0 O_1 O_2 B_0 B_1 B_2 B_3 HB hHeld ⊢
 refine tkA 0 131 (bs 12 1) hHeld ?_
 refine join_ (σ := Value × Nat) 2 #[true, true, true, true, true, true, true, true, true, true, false, false] (fun s_ => [(132, .agg #[.int .i64 t_r, .int .i64 t_p]), (133, .agg #[.int .i64 t_t, .int .i64 t_u]), (134, .agg #[.int .i64 t363, .int .i64 t364, .int .i64 t365, .int .i64 t366, .int .i64 t367, .int .i64 t368, .int .i64 t369]), (135, .agg #[.int .i64 t370, .int .i64 t371, .int .i64 t372, .int .i64 t373, .int .i64 t374, .bool t375, .int .i64 t376, .int .i64 t377, .int .i64 t378, .int .i64 t379, .int .i64 t380, .int .i64 t381, .int .i64 t382]), (136, .tuple #[.agg #[.int .i64 t_w, s_.1], .int .i64 t387]), (14, .pointer (some ⟨s_.2, 0, none⟩)), (130, .tuple #[.agg #[.int .i64 t_w, s_.1], .int .i64 t387]), (137, .agg #[.int .i64 t_w, s_.1]), (138, .int .i64 t387)]) (fun s_ w' => (w'.cell? ⟨g_1, 0, none⟩ = some (.int .i64 t_3) ∧ w'.cell? ⟨g_1, 1, none⟩ = some (.slice Ao65 t_0.length co65)) ∧ (Kd.R k30 30 w' w.heap.size (fun k_ => some k_ ≠ (.slice Ao127 t_1.length co127 : Value).ownBlock ∧ some k_ ≠ (.slice Ao151 t_2.length co151 : Value).ownBlock ∧ some k_ ≠ (s_.1 : Value).ownBlock) (.slice Ao65 t_0.length co65) t_0) ∧ (Kd.R k30 30 w' w.heap.size (fun k_ => some k_ ≠ (.slice Ao65 t_0.length co65 : Value).ownBlock ∧ some k_ ≠ (.slice Ao151 t_2.length co151 : Value).ownBlock ∧ some k_ ≠ (s_.1 : Value).ownBlock) (.slice Ao127 t_1.length co127) t_1) ∧ (Kd.R k30 30 w' w.heap.size (fun k_ => some k_ ≠ (.slice Ao65 t_0.length co65 : Value).ownBlock ∧ some k_ ≠ (.slice Ao127 t_1.length co127 : Value).ownBlock ∧ some k_ ≠ (s_.1 : Value).ownBlock) (.slice Ao151 t_2.length co151) t_2) ∧ (Kd.R k30 30 w' w.heap.size (fun k_ => some k_ ≠ (.slice Ao65 t_0.length co65 : Value).ownBlock ∧ some k_ ≠ (.slice Ao127 t_1.length co127 : Value).ownBlock ∧ some k_ ≠ (.slice Ao151 t_2.length co151 : Value).ownBlock) s_.1 t384) ∧ (w'.heap[g_1]? = some (.cells #[.int .i64 t_3, .slice Ao65 t_0.length co65] 24 (0, 0))) ∧ (w'.heap[g_0]? = some (.cells #[.int .i64 t_5, .int .i64 t_6, .int .i64 t_7, .int .i64 t_8, .int .i64 t_a, .int .i64 t_b, .int .i64 t_c] 28 (0, 0))) ∧ (w'.heap[g_3]? = some (.cells #[.int .i64 t_4, .slice Ao127 t_1.length co127] 24 (0, 0))) ∧ (w'.heap[g_4]? = some (.cells #[.int .i64 t_9, .slice Ao151 t_2.length co151] 24 (0, 0))) ∧ (w'.heap[s_.2]? = some (.cells #[.int .i64 0, .slice none 0 0] 24 (0, 0))) ∧ (w.heap.size ≤ s_.2) ∧ (w.heap.size ≤ s_.2) ∧ (g_1 ≠ s_.2) ∧ (s_.2 ≠ g_1) ∧ (g_0 ≠ s_.2) ∧ (s_.2 ≠ g_0) ∧ (g_3 ≠ s_.2) ∧ (s_.2 ≠ g_3) ∧ (g_4 ≠ s_.2) ∧ (s_.2 ≠ g_4) ∧ (Below w.heap.size w w')) ?_ ?_
 rotate_left
 ·intro hJ1_2_3_4_5_9
  refine join_ (σ := Value) 3 #[true, true, true, true, true, true, true, true, true, false, false, false] (fun s_ => [(132, .agg #[.int .i64 t_r, .int .i64 t_p]), (133, .agg #[.int .i64 t_t, .int .i64 t_u]), (134, .agg #[.int .i64 t363, .int .i64 t364, .int .i64 t365, .int .i64 t366, .int .i64 t367, .int .i64 t368, .int .i64 t369]), (135, .agg #[.int .i64 t370, .int .i64 t371, .int .i64 t372, .int .i64 t373, .int .i64 t374, .bool t375, .int .i64 t376, .int .i64 t377, .int .i64 t378, .int .i64 t379, .int .i64 t380, .int .i64 t381, .int .i64 t382]), (136, .tuple #[.agg #[.int .i64 t_w, s_], .int .i64 t387]), (130, .tuple #[.agg #[.int .i64 t_w, s_], .int .i64 t387]), (137, .agg #[.int .i64 t_w, s_]), (138, .int .i64 t387)]) (fun s_ w' => (w'.cell? ⟨g_1, 0, none⟩ = some (.int .i64 t_3) ∧ w'.cell? ⟨g_1, 1, none⟩ = some (.slice Ao65 t_0.length co65)) ∧ (Kd.R k30 30 w' w.heap.size (fun k_ => some k_ ≠ (.slice Ao127 t_1.length co127 : Value).ownBlock ∧ some k_ ≠ (.slice Ao151 t_2.length co151 : Value).ownBlock ∧ some k_ ≠ (s_ : Value).ownBlock) (.slice Ao65 t_0.length co65) t_0) ∧ (Kd.R k30 30 w' w.heap.size (fun k_ => some k_ ≠ (.slice Ao65 t_0.length co65 : Value).ownBlock ∧ some k_ ≠ (.slice Ao151 t_2.length co151 : Value).ownBlock ∧ some k_ ≠ (s_ : Value).ownBlock) (.slice Ao127 t_1.length co127) t_1) ∧ (Kd.R k30 30 w' w.heap.size (fun k_ => some k_ ≠ (.slice Ao65 t_0.length co65 : Value).ownBlock ∧ some k_ ≠ (.slice Ao127 t_1.length co127 : Value).ownBlock ∧ some k_ ≠ (s_ : Value).ownBlock) (.slice Ao151 t_2.length co151) t_2) ∧ (Kd.R k30 30 w' w.heap.size (fun k_ => some k_ ≠ (.slice Ao65 t_0.length co65 : Value).ownBlock ∧ some k_ ≠ (.slice Ao127 t_1.length co127 : Value).ownBlock ∧ some k_ ≠ (.slice Ao151 t_2.length co151 : Value).ownBlock) s_ t384) ∧ (w'.heap[g_1]? = some (.cells #[.int .i64 t_3, .slice Ao65 t_0.length co65] 24 (0, 0))) ∧ (w'.heap[g_0]? = some (.cells #[.int .i64 t_5, .int .i64 t_6, .int .i64 t_7, .int .i64 t_8, .int .i64 t_a, .int .i64 t_b, .int .i64 t_c] 28 (0, 0))) ∧ (w'.heap[g_3]? = some (.cells #[.int .i64 t_4, .slice Ao127 t_1.length co127] 24 (0, 0))) ∧ (w'.heap[g_4]? = some (.cells #[.int .i64 t_9, .slice Ao151 t_2.length co151] 24 (0, 0))) ∧ (Below w.heap.size w w')) ?_ ?_
  rotate_left
  ·intro hJ1_2_3_4_5
   refine join_ (σ := Nat) 6 #[true, true, true, true, true, false, false, false, false, true, false, false] (fun s_ => [(132, .agg #[.int .i64 t_r, .int .i64 t_p]), (133, .agg #[.int .i64 t_t, .int .i64 t_u]), (134, .agg #[.int .i64 t363, .int .i64 t364, .int .i64 t365, .int .i64 t366, .int .i64 t367, .int .i64 t368, .int .i64 t369]), (135, .agg #[.int .i64 t370, .int .i64 t371, .int .i64 t372, .int .i64 t373, .int .i64 t374, .bool t375, .int .i64 t376, .int .i64 t377, .int .i64 t378, .int .i64 t379, .int .i64 t380, .int .i64 t381, .int .i64 t382]), (14, .pointer (some ⟨s_, 0, none⟩))]) (fun s_ w' => (w'.cell? ⟨g_1, 0, none⟩ = some (.int .i64 t_3) ∧ w'.cell? ⟨g_1, 1, none⟩ = some (.slice Ao65 t_0.length co65)) ∧ (Kd.R k30 30 w' w.heap.size (fun k_ => some k_ ≠ (.slice Ao127 t_1.length co127 : Value).ownBlock ∧ some k_ ≠ (.slice Ao151 t_2.length co151 : Value).ownBlock) (.slice Ao65 t_0.length co65) t_0) ∧ (Kd.R k30 30 w' w.heap.size (fun k_ => some k_ ≠ (.slice Ao65 t_0.length co65 : Value).ownBlock ∧ some k_ ≠ (.slice Ao151 t_2.length co151 : Value).ownBlock) (.slice Ao127 t_1.length co127) t_1) ∧ (Kd.R k30 30 w' w.heap.size (fun k_ => some k_ ≠ (.slice Ao65 t_0.length co65 : Value).ownBlock ∧ some k_ ≠ (.slice Ao127 t_1.length co127 : Value).ownBlock) (.slice Ao151 t_2.length co151) t_2) ∧ (w'.heap[g_1]? = some (.cells #[.int .i64 t_3, .slice Ao65 t_0.length co65] 24 (0, 0))) ∧ (w'.heap[g_0]? = some (.cells #[.int .i64 t_5, .int .i64 t_6, .int .i64 t_7, .int .i64 t_8, .int .i64 t_a, .int .i64 t_b, .int .i64 t_c] 28 (0, 0))) ∧ (w'.heap[g_3]? = some (.cells #[.int .i64 t_4, .slice Ao127 t_1.length co127] 24 (0, 0))) ∧ (w'.heap[g_4]? = some (.cells #[.int .i64 t_9, .slice Ao151 t_2.length co151] 24 (0, 0))) ∧ (w'.heap[s_]? = some (.cells #[.int .i64 0, .slice none 0 0] 24 (0, 0))) ∧ (w.heap.size ≤ s_) ∧ (w.heap.size ≤ s_) ∧ (g_1 ≠ s_) ∧ (s_ ≠ g_1) ∧ (g_0 ≠ s_) ∧ (s_ ≠ g_0) ∧ (g_3 ≠ s_) ∧ (s_ ≠ g_3) ∧ (g_4 ≠ s_) ∧ (s_ ≠ g_4) ∧ (Below w.heap.size w w')) ?_ ?_
   rotate_left
   ·intro hJ1_2_3_4_9
    refine join_ (σ := Unit) 7 #[true, true, true, true, true, false, false, false, false, false, false, false] (fun s_ => [(132, .agg #[.int .i64 t_r, .int .i64 t_p]), (133, .agg #[.int .i64 t_t, .int .i64 t_u]), (134, .agg #[.int .i64 t363, .int .i64 t364, .int .i64 t365, .int .i64 t366, .int .i64 t367, .int .i64 t368, .int .i64 t369]), (135, .agg #[.int .i64 t370, .int .i64 t371, .int .i64 t372, .int .i64 t373, .int .i64 t374, .bool t375, .int .i64 t376, .int .i64 t377, .int .i64 t378, .int .i64 t379, .int .i64 t380, .int .i64 t381, .int .i64 t382])]) (fun s_ w' => (w'.cell? ⟨g_1, 0, none⟩ = some (.int .i64 t_3) ∧ w'.cell? ⟨g_1, 1, none⟩ = some (.slice Ao65 t_0.length co65)) ∧ (Kd.R k30 30 w' w.heap.size (fun k_ => some k_ ≠ (.slice Ao127 t_1.length co127 : Value).ownBlock ∧ some k_ ≠ (.slice Ao151 t_2.length co151 : Value).ownBlock) (.slice Ao65 t_0.length co65) t_0) ∧ (Kd.R k30 30 w' w.heap.size (fun k_ => some k_ ≠ (.slice Ao65 t_0.length co65 : Value).ownBlock ∧ some k_ ≠ (.slice Ao151 t_2.length co151 : Value).ownBlock) (.slice Ao127 t_1.length co127) t_1) ∧ (Kd.R k30 30 w' w.heap.size (fun k_ => some k_ ≠ (.slice Ao65 t_0.length co65 : Value).ownBlock ∧ some k_ ≠ (.slice Ao127 t_1.length co127 : Value).ownBlock) (.slice Ao151 t_2.length co151) t_2) ∧ (w'.heap[g_1]? = some (.cells #[.int .i64 t_3, .slice Ao65 t_0.length co65] 24 (0, 0))) ∧ (w'.heap[g_0]? = some (.cells #[.int .i64 t_5, .int .i64 t_6, .int .i64 t_7, .int .i64 t_8, .int .i64 t_a, .int .i64 t_b, .int .i64 t_c] 28 (0, 0))) ∧ (w'.heap[g_3]? = some (.cells #[.int .i64 t_4, .slice Ao127 t_1.length co127] 24 (0, 0))) ∧ (w'.heap[g_4]? = some (.cells #[.int .i64 t_9, .slice Ao151 t_2.length co151] 24 (0, 0))) ∧ (Below w.heap.size w w')) ?_ ?_
    rotate_left
    ·intro hJ1_2_3_4
     refine join_ (σ := Nat) 7 #[true, true, true, true, false, false, false, false, false, true, false, false] (fun s_ => [(132, .agg #[.int .i64 t_r, .int .i64 t_p]), (133, .agg #[.int .i64 t_t, .int .i64 t_u]), (134, .agg #[.int .i64 t363, .int .i64 t364, .int .i64 t365, .int .i64 t366, .int .i64 t367, .int .i64 t368, .int .i64 t369]), (14, .pointer (some ⟨s_, 0, none⟩))]) (fun s_ w' => (w'.cell? ⟨g_1, 0, none⟩ = some (.int .i64 t_3) ∧ w'.cell? ⟨g_1, 1, none⟩ = some (.slice Ao65 t_0.length co65)) ∧ (Kd.R k30 30 w' w.heap.size (fun k_ => some k_ ≠ (.slice Ao127 t_1.length co127 : Value).ownBlock ∧ some k_ ≠ (.slice Ao151 t_2.length co151 : Value).ownBlock) (.slice Ao65 t_0.length co65) t_0) ∧ (Kd.R k30 30 w' w.heap.size (fun k_ => some k_ ≠ (.slice Ao65 t_0.length co65 : Value).ownBlock ∧ some k_ ≠ (.slice Ao151 t_2.length co151 : Value).ownBlock) (.slice Ao127 t_1.length co127) t_1) ∧ (Kd.R k30 30 w' w.heap.size (fun k_ => some k_ ≠ (.slice Ao65 t_0.length co65 : Value).ownBlock ∧ some k_ ≠ (.slice Ao127 t_1.length co127 : Value).ownBlock) (.slice Ao151 t_2.length co151) t_2) ∧ (w'.heap[g_1]? = some (.cells #[.int .i64 t_3, .slice Ao65 t_0.length co65] 24 (0, 0))) ∧ (w'.heap[g_0]? = some (.cells #[.int .i64 t_5, .int .i64 t_6, .int .i64 t_7, .int .i64 t_8, .int .i64 t_a, .int .i64 t_b, .int .i64 t_c] 28 (0, 0))) ∧ (w'.heap[g_3]? = some (.cells #[.int .i64 t_4, .slice Ao127 t_1.length co127] 24 (0, 0))) ∧ (w'.heap[g_4]? = some (.cells #[.int .i64 t_9, .slice Ao151 t_2.length co151] 24 (0, 0))) ∧ (w'.heap[s_]? = some (.cells #[.int .i64 0, .slice none 0 0] 24 (0, 0))) ∧ (w.heap.size ≤ s_) ∧ (w.heap.size ≤ s_) ∧ (g_1 ≠ s_) ∧ (s_ ≠ g_1) ∧ (g_0 ≠ s_) ∧ (s_ ≠ g_0) ∧ (g_3 ≠ s_) ∧ (s_ ≠ g_3) ∧ (g_4 ≠ s_) ∧ (s_ ≠ g_4) ∧ (Below w.heap.size w w')) ?_ ?_
     rotate_left
     ·intro hJ1_2_3_9
      refine join_ (σ := Unit) 8 #[true, true, true, true, false, false, false, false, false, false, false, false] (fun s_ => [(132, .agg #[.int .i64 t_r, .int .i64 t_p]), (133, .agg #[.int .i64 t_t, .int .i64 t_u]), (134, .agg #[.int .i64 t363, .int .i64 t364, .int .i64 t365, .int .i64 t366, .int .i64 t367, .int .i64 t368, .int .i64 t369])]) (fun s_ w' => (w'.cell? ⟨g_1, 0, none⟩ = some (.int .i64 t_3) ∧ w'.cell? ⟨g_1, 1, none⟩ = some (.slice Ao65 t_0.length co65)) ∧ (Kd.R k30 30 w' w.heap.size (fun k_ => some k_ ≠ (.slice Ao127 t_1.length co127 : Value).ownBlock ∧ some k_ ≠ (.slice Ao151 t_2.length co151 : Value).ownBlock) (.slice Ao65 t_0.length co65) t_0) ∧ (Kd.R k30 30 w' w.heap.size (fun k_ => some k_ ≠ (.slice Ao65 t_0.length co65 : Value).ownBlock ∧ some k_ ≠ (.slice Ao151 t_2.length co151 : Value).ownBlock) (.slice Ao127 t_1.length co127) t_1) ∧ (Kd.R k30 30 w' w.heap.size (fun k_ => some k_ ≠ (.slice Ao65 t_0.length co65 : Value).ownBlock ∧ some k_ ≠ (.slice Ao127 t_1.length co127 : Value).ownBlock) (.slice Ao151 t_2.length co151) t_2) ∧ (w'.heap[g_1]? = some (.cells #[.int .i64 t_3, .slice Ao65 t_0.length co65] 24 (0, 0))) ∧ (w'.heap[g_0]? = some (.cells #[.int .i64 t_5, .int .i64 t_6, .int .i64 t_7, .int .i64 t_8, .int .i64 t_a, .int .i64 t_b, .int .i64 t_c] 28 (0, 0))) ∧ (w'.heap[g_3]? = some (.cells #[.int .i64 t_4, .slice Ao127 t_1.length co127] 24 (0, 0))) ∧ (w'.heap[g_4]? = some (.cells #[.int .i64 t_9, .slice Ao151 t_2.length co151] 24 (0, 0))) ∧ (Below w.heap.size w w')) ?_ ?_
      rotate_left
      ·intro hJ1_2_3
       refine join_ (σ := Nat) 8 #[true, true, true, false, false, false, false, false, false, true, false, false] (fun s_ => [(132, .agg #[.int .i64 t_r, .int .i64 t_p]), (133, .agg #[.int .i64 t_t, .int .i64 t_u]), (14, .pointer (some ⟨s_, 0, none⟩))]) (fun s_ w' => (w'.cell? ⟨g_1, 0, none⟩ = some (.int .i64 t_3) ∧ w'.cell? ⟨g_1, 1, none⟩ = some (.slice Ao65 t_0.length co65)) ∧ (Kd.R k30 30 w' w.heap.size (fun k_ => some k_ ≠ (.slice Ao127 t_1.length co127 : Value).ownBlock ∧ some k_ ≠ (.slice Ao151 t_2.length co151 : Value).ownBlock) (.slice Ao65 t_0.length co65) t_0) ∧ (Kd.R k30 30 w' w.heap.size (fun k_ => some k_ ≠ (.slice Ao65 t_0.length co65 : Value).ownBlock ∧ some k_ ≠ (.slice Ao151 t_2.length co151 : Value).ownBlock) (.slice Ao127 t_1.length co127) t_1) ∧ (Kd.R k30 30 w' w.heap.size (fun k_ => some k_ ≠ (.slice Ao65 t_0.length co65 : Value).ownBlock ∧ some k_ ≠ (.slice Ao127 t_1.length co127 : Value).ownBlock) (.slice Ao151 t_2.length co151) t_2) ∧ (w'.heap[g_1]? = some (.cells #[.int .i64 t_3, .slice Ao65 t_0.length co65] 24 (0, 0))) ∧ (w'.heap[g_0]? = some (.cells #[.int .i64 t_5, .int .i64 t_6, .int .i64 t_7, .int .i64 t_8, .int .i64 t_a, .int .i64 t_b, .int .i64 t_c] 28 (0, 0))) ∧ (w'.heap[g_3]? = some (.cells #[.int .i64 t_4, .slice Ao127 t_1.length co127] 24 (0, 0))) ∧ (w'.heap[g_4]? = some (.cells #[.int .i64 t_9, .slice Ao151 t_2.length co151] 24 (0, 0))) ∧ (w'.heap[s_]? = some (.cells #[.int .i64 0, .slice none 0 0] 24 (0, 0))) ∧ (w.heap.size ≤ s_) ∧ (w.heap.size ≤ s_) ∧ (g_1 ≠ s_) ∧ (s_ ≠ g_1) ∧ (g_0 ≠ s_) ∧ (s_ ≠ g_0) ∧ (g_3 ≠ s_) ∧ (s_ ≠ g_3) ∧ (g_4 ≠ s_) ∧ (s_ ≠ g_4) ∧ (Below w.heap.size w w')) ?_ ?_
       rotate_left
       ·intro hJ1_2_9
        refine join_ (σ := Unit) 9 #[true, true, true, false, false, false, false, false, false, false, false, false] (fun s_ => [(132, .agg #[.int .i64 t_r, .int .i64 t_p]), (133, .agg #[.int .i64 t_t, .int .i64 t_u])]) (fun s_ w' => (w'.cell? ⟨g_1, 0, none⟩ = some (.int .i64 t_3) ∧ w'.cell? ⟨g_1, 1, none⟩ = some (.slice Ao65 t_0.length co65)) ∧ (Kd.R k30 30 w' w.heap.size (fun k_ => some k_ ≠ (.slice Ao127 t_1.length co127 : Value).ownBlock ∧ some k_ ≠ (.slice Ao151 t_2.length co151 : Value).ownBlock) (.slice Ao65 t_0.length co65) t_0) ∧ (Kd.R k30 30 w' w.heap.size (fun k_ => some k_ ≠ (.slice Ao65 t_0.length co65 : Value).ownBlock ∧ some k_ ≠ (.slice Ao151 t_2.length co151 : Value).ownBlock) (.slice Ao127 t_1.length co127) t_1) ∧ (Kd.R k30 30 w' w.heap.size (fun k_ => some k_ ≠ (.slice Ao65 t_0.length co65 : Value).ownBlock ∧ some k_ ≠ (.slice Ao127 t_1.length co127 : Value).ownBlock) (.slice Ao151 t_2.length co151) t_2) ∧ (w'.heap[g_1]? = some (.cells #[.int .i64 t_3, .slice Ao65 t_0.length co65] 24 (0, 0))) ∧ (w'.heap[g_0]? = some (.cells #[.int .i64 t_5, .int .i64 t_6, .int .i64 t_7, .int .i64 t_8, .int .i64 t_a, .int .i64 t_b, .int .i64 t_c] 28 (0, 0))) ∧ (w'.heap[g_3]? = some (.cells #[.int .i64 t_4, .slice Ao127 t_1.length co127] 24 (0, 0))) ∧ (w'.heap[g_4]? = some (.cells #[.int .i64 t_9, .slice Ao151 t_2.length co151] 24 (0, 0))) ∧ (Below w.heap.size w w')) ?_ ?_
        rotate_left
        ·intro hJ1_2
         refine join_ (σ := Nat) 9 #[true, true, false, false, false, false, false, false, false, true, false, false] (fun s_ => [(132, .agg #[.int .i64 t_r, .int .i64 t_p]), (14, .pointer (some ⟨s_, 0, none⟩))]) (fun s_ w' => (w'.cell? ⟨g_1, 0, none⟩ = some (.int .i64 t_3) ∧ w'.cell? ⟨g_1, 1, none⟩ = some (.slice Ao65 t_0.length co65)) ∧ (Kd.R k30 30 w' w.heap.size (fun k_ => some k_ ≠ (.slice Ao127 t_1.length co127 : Value).ownBlock ∧ some k_ ≠ (.slice Ao151 t_2.length co151 : Value).ownBlock) (.slice Ao65 t_0.length co65) t_0) ∧ (Kd.R k30 30 w' w.heap.size (fun k_ => some k_ ≠ (.slice Ao65 t_0.length co65 : Value).ownBlock ∧ some k_ ≠ (.slice Ao151 t_2.length co151 : Value).ownBlock) (.slice Ao127 t_1.length co127) t_1) ∧ (Kd.R k30 30 w' w.heap.size (fun k_ => some k_ ≠ (.slice Ao65 t_0.length co65 : Value).ownBlock ∧ some k_ ≠ (.slice Ao127 t_1.length co127 : Value).ownBlock) (.slice Ao151 t_2.length co151) t_2) ∧ (w'.heap[g_1]? = some (.cells #[.int .i64 t_3, .slice Ao65 t_0.length co65] 24 (0, 0))) ∧ (w'.heap[g_0]? = some (.cells #[.int .i64 t_5, .int .i64 t_6, .int .i64 t_7, .int .i64 t_8, .int .i64 t_a, .int .i64 t_b, .int .i64 t_c] 28 (0, 0))) ∧ (w'.heap[g_3]? = some (.cells #[.int .i64 t_4, .slice Ao127 t_1.length co127] 24 (0, 0))) ∧ (w'.heap[g_4]? = some (.cells #[.int .i64 t_9, .slice Ao151 t_2.length co151] 24 (0, 0))) ∧ (w'.heap[s_]? = some (.cells #[.int .i64 0, .slice none 0 0] 24 (0, 0))) ∧ (w.heap.size ≤ s_) ∧ (w.heap.size ≤ s_) ∧ (g_1 ≠ s_) ∧ (s_ ≠ g_1) ∧ (g_0 ≠ s_) ∧ (s_ ≠ g_0) ∧ (g_3 ≠ s_) ∧ (s_ ≠ g_3) ∧ (g_4 ≠ s_) ∧ (s_ ≠ g_4) ∧ (Below w.heap.size w w')) ?_ ?_
         rotate_left
         ·intro hJ1_9
          refine join_ (σ := Unit) 10 #[true, true, false, false, false, false, false, false, false, false, false, false] (fun s_ => [(132, .agg #[.int .i64 t_r, .int .i64 t_p])]) (fun s_ w' => (w'.cell? ⟨g_1, 0, none⟩ = some (.int .i64 t_3) ∧ w'.cell? ⟨g_1, 1, none⟩ = some (.slice Ao65 t_0.length co65)) ∧ (Kd.R k30 30 w' w.heap.size (fun k_ => some k_ ≠ (.slice Ao127 t_1.length co127 : Value).ownBlock ∧ some k_ ≠ (.slice Ao151 t_2.length co151 : Value).ownBlock) (.slice Ao65 t_0.length co65) t_0) ∧ (Kd.R k30 30 w' w.heap.size (fun k_ => some k_ ≠ (.slice Ao65 t_0.length co65 : Value).ownBlock ∧ some k_ ≠ (.slice Ao151 t_2.length co151 : Value).ownBlock) (.slice Ao127 t_1.length co127) t_1) ∧ (Kd.R k30 30 w' w.heap.size (fun k_ => some k_ ≠ (.slice Ao65 t_0.length co65 : Value).ownBlock ∧ some k_ ≠ (.slice Ao127 t_1.length co127 : Value).ownBlock) (.slice Ao151 t_2.length co151) t_2) ∧ (w'.heap[g_1]? = some (.cells #[.int .i64 t_3, .slice Ao65 t_0.length co65] 24 (0, 0))) ∧ (w'.heap[g_0]? = some (.cells #[.int .i64 t_5, .int .i64 t_6, .int .i64 t_7, .int .i64 t_8, .int .i64 t_a, .int .i64 t_b, .int .i64 t_c] 28 (0, 0))) ∧ (w'.heap[g_3]? = some (.cells #[.int .i64 t_4, .slice Ao127 t_1.length co127] 24 (0, 0))) ∧ (w'.heap[g_4]? = some (.cells #[.int .i64 t_9, .slice Ao151 t_2.length co151] 24 (0, 0))) ∧ (Below w.heap.size w w')) ?_ ?_
          rotate_left
          ·intro hJ1
           refine join_ (σ := Nat) 10 #[true, false, false, false, false, false, false, false, false, true, false, false] (fun s_ => [(14, .pointer (some ⟨s_, 0, none⟩))]) (fun s_ w' => (w'.cell? ⟨g_1, 0, none⟩ = some (.int .i64 t_3) ∧ w'.cell? ⟨g_1, 1, none⟩ = some (.slice Ao65 t_0.length co65)) ∧ (Kd.R k30 30 w' w.heap.size (fun k_ => some k_ ≠ (.slice Ao127 t_1.length co127 : Value).ownBlock ∧ some k_ ≠ (.slice Ao151 t_2.length co151 : Value).ownBlock) (.slice Ao65 t_0.length co65) t_0) ∧ (Kd.R k30 30 w' w.heap.size (fun k_ => some k_ ≠ (.slice Ao65 t_0.length co65 : Value).ownBlock ∧ some k_ ≠ (.slice Ao151 t_2.length co151 : Value).ownBlock) (.slice Ao127 t_1.length co127) t_1) ∧ (Kd.R k30 30 w' w.heap.size (fun k_ => some k_ ≠ (.slice Ao65 t_0.length co65 : Value).ownBlock ∧ some k_ ≠ (.slice Ao127 t_1.length co127 : Value).ownBlock) (.slice Ao151 t_2.length co151) t_2) ∧ (w'.heap[g_1]? = some (.cells #[.int .i64 t_3, .slice Ao65 t_0.length co65] 24 (0, 0))) ∧ (w'.heap[g_0]? = some (.cells #[.int .i64 t_5, .int .i64 t_6, .int .i64 t_7, .int .i64 t_8, .int .i64 t_a, .int .i64 t_b, .int .i64 t_c] 28 (0, 0))) ∧ (w'.heap[g_3]? = some (.cells #[.int .i64 t_4, .slice Ao127 t_1.length co127] 24 (0, 0))) ∧ (w'.heap[g_4]? = some (.cells #[.int .i64 t_9, .slice Ao151 t_2.length co151] 24 (0, 0))) ∧ (w'.heap[s_]? = some (.cells #[.int .i64 0, .slice none 0 0] 24 (0, 0))) ∧ (w.heap.size ≤ s_) ∧ (w.heap.size ≤ s_) ∧ (g_1 ≠ s_) ∧ (s_ ≠ g_1) ∧ (g_0 ≠ s_) ∧ (s_ ≠ g_0) ∧ (g_3 ≠ s_) ∧ (s_ ≠ g_3) ∧ (g_4 ≠ s_) ∧ (s_ ≠ g_4) ∧ (Below w.heap.size w w')) ?_ ?_
           rotate_left
           ·intro hJ9
            refine two_ (i := 1) (j := 9) (Ni := some 132) (Nj := some 14) #[true, true, false, false, false, false, false, false, false, false, false, false] #[true, false, false, false, false, false, false, false, false, true, false, false] rfl rfl rfl rfl (Y1w HT_.out (by kernel_rfl)) (by decide) (by decide) (fun K hK => ?_) (fun K hK => ?_)
            ·skip
             refine goes_ Try.func51 (by kernel_rfl) rfl #[.int .i64 2, .int .i64 2] (by rfl) rfl rfl (by (try simp only [List.map_toArray, List.map_cons, List.map_nil]); first | done | (go_simp; done) | rfl | (simp only [List.length_drop, List.length_take]; rfl)) ?_
             with_reducible refine (Yb.calls 2 2 t_r t_p _ A39.out).mono ?_
             rintro e w155 ⟨rfl, hb⟩
             refine ⟨_, rfl, ?_⟩
             replace O_0 := Y0.mk (Kd.R_below (Kd.rU O_0.out) hb)
             replace O_1 := Y0.mk (Kd.R_below (Kd.rU O_1.out) hb)
             replace O_2 := Y0.mk (Kd.R_below (Kd.rU O_2.out) hb)
             replace B_0 := Y0.mk (Y3 (bU B_0.out) hb)
             replace B_1 := Y0.mk (Y3 (bU B_1.out) hb)
             replace B_2 := Y0.mk (Y3 (bU B_2.out) hb)
             replace B_3 := Y0.mk (Y3 (bU B_3.out) hb)
             replace HB := Y0.mk (Y5 (hU HB.out) hb)
             (try clear hb)
             (try clear hb2)
             (try clear hk)
             (try clear hi)
             refine hK.out _ _ ⟨(Y2 B_0.out 0).trans rfl, (Y2 B_0.out 1).trans rfl⟩ (fun hHeld => ?_)
             clear hK K
             refine nmA 132 ?_
             exact norm_ (by first | (simp only [YB, Act.put, List.setIfInBounds_toArray, List.set_cons_zero, List.set_cons_succ]; done) | (simp only [YB, Act.put, List.setIfInBounds_toArray, List.set_cons_zero, List.set_cons_succ]; rfl)) (hJ1 () _ ⟨hHeld, (Kd.rU O_0.out), (Kd.rU O_1.out), (Kd.rU O_2.out), (bU B_0.out), (bU B_1.out), (bU B_2.out), (bU B_3.out), (hU HB.out)⟩)
            ·skip
             refine YY ?hg (N := 14) ?hd (cs := #[.int .i64 0, .slice none 0 0]) (t := 24) ?hr ?_; (case hd => rfl); (case hg => rfl); (case hr => first | (go_simp; done) | (go_simp; rfl))
             intro g_2 hg w155 hbox hb
             have n0_ := Y0.mk (Kd.R_below (Kd.rU O_0.out) hb)
             have n1_ := Y0.mk (Kd.R_below (Kd.rU O_1.out) hb)
             have n2_ := Y0.mk (Kd.R_below (Kd.rU O_2.out) hb)
             have n3_ := Y0.mk (Y3 (bU B_0.out) hb)
             have n4_ := Y0.mk (Y3 (bU B_1.out) hb)
             have n5_ := Y0.mk (Y3 (bU B_2.out) hb)
             have n6_ := Y0.mk (Y3 (bU B_3.out) hb)
             have n7_ := Y0.mk (Y5 (hU HB.out) hb)
             have n8_ := Y0.mk (hbox)
             have n9_ := gE hg HB
             have n10_ := gE hg HB
             have n11_ := gL hg B_0
             have n12_ := gG hg B_0
             have n13_ := gL hg B_1
             have n14_ := gG hg B_1
             have n15_ := gL hg B_2
             have n16_ := gG hg B_2
             have n17_ := gL hg B_3
             have n18_ := gG hg B_3
             clear O_0
             clear O_1
             clear O_2
             clear B_0
             clear B_1
             clear B_2
             clear B_3
             clear HB
             have O_0 := n0_
             have O_1 := n1_
             have O_2 := n2_
             have B_0 := n3_
             have B_1 := n4_
             have B_2 := n5_
             have B_3 := n6_
             have HB := n7_
             have B_4 := n8_
             have W_0 := n9_
             have G_0 := n10_
             have N_3 := n11_
             have N_a := n12_
             have N_6 := n13_
             have N_7 := n14_
             have N_4 := n15_
             have N_9 := n16_
             have N_5 := n17_
             have N_8 := n18_
             clear n0_ n1_ n2_ n3_ n4_ n5_ n6_ n7_ n8_ n9_ n10_ n11_ n12_ n13_ n14_ n15_ n16_ n17_ n18_
             clear hb hbox hg
             refine hK.out _ _ ⟨(Y2 B_0.out 0).trans rfl, (Y2 B_0.out 1).trans rfl⟩ (fun hHeld => ?_)
             clear hK K
             refine nmA 14 ?_
             exact norm_ (by first | (simp only [YB, Act.put, List.setIfInBounds_toArray, List.set_cons_zero, List.set_cons_succ]; done) | (simp only [YB, Act.put, List.setIfInBounds_toArray, List.set_cons_zero, List.set_cons_succ]; rfl)) (hJ9 (g_2) _ ⟨hHeld, (Kd.rU O_0.out), (Kd.rU O_1.out), (Kd.rU O_2.out), (bU B_0.out), (bU B_1.out), (bU B_2.out), (bU B_3.out), (bU B_4.out), W_0.out, G_0.out, N_3.out, N_a.out, N_6.out, N_7.out, N_4.out, N_9.out, N_5.out, N_8.out, (hU HB.out)⟩)
           ·skip
            rintro g_2 w156 ⟨hS_, h0_, h1_, h2_, h3_, h4_, h5_, h6_, h7_, h8_, h9_, h10_, h11_, h12_, h13_, h14_, h15_, h16_, h17_, h18_⟩
            have n0_ : Y0 (Kd.R k30 30 w156 w.heap.size (fun k_ => some k_ ≠ (.slice Ao127 t_1.length co127 : Value).ownBlock ∧ some k_ ≠ (.slice Ao151 t_2.length co151 : Value).ownBlock) (.slice Ao65 t_0.length co65) t_0) := ⟨h0_⟩
            have n1_ : Y0 (Kd.R k30 30 w156 w.heap.size (fun k_ => some k_ ≠ (.slice Ao65 t_0.length co65 : Value).ownBlock ∧ some k_ ≠ (.slice Ao151 t_2.length co151 : Value).ownBlock) (.slice Ao127 t_1.length co127) t_1) := ⟨h1_⟩
            have n2_ : Y0 (Kd.R k30 30 w156 w.heap.size (fun k_ => some k_ ≠ (.slice Ao65 t_0.length co65 : Value).ownBlock ∧ some k_ ≠ (.slice Ao127 t_1.length co127 : Value).ownBlock) (.slice Ao151 t_2.length co151) t_2) := ⟨h2_⟩
            have n3_ : Y0 (w156.heap[g_1]? = some (.cells #[.int .i64 t_3, .slice Ao65 t_0.length co65] 24 (0, 0))) := ⟨h3_⟩
            have n4_ : Y0 (w156.heap[g_0]? = some (.cells #[.int .i64 t_5, .int .i64 t_6, .int .i64 t_7, .int .i64 t_8, .int .i64 t_a, .int .i64 t_b, .int .i64 t_c] 28 (0, 0))) := ⟨h4_⟩
            have n5_ : Y0 (w156.heap[g_3]? = some (.cells #[.int .i64 t_4, .slice Ao127 t_1.length co127] 24 (0, 0))) := ⟨h5_⟩
            have n6_ : Y0 (w156.heap[g_4]? = some (.cells #[.int .i64 t_9, .slice Ao151 t_2.length co151] 24 (0, 0))) := ⟨h6_⟩
            have n7_ : Y0 (w156.heap[g_2]? = some (.cells #[.int .i64 0, .slice none 0 0] 24 (0, 0))) := ⟨h7_⟩
            have n8_ : Y0 (w.heap.size ≤ g_2) := ⟨h8_⟩
            have n9_ : Y0 (w.heap.size ≤ g_2) := ⟨h9_⟩
            have n10_ : Y0 (g_1 ≠ g_2) := ⟨h10_⟩
            have n11_ : Y0 (g_2 ≠ g_1) := ⟨h11_⟩
            have n12_ : Y0 (g_0 ≠ g_2) := ⟨h12_⟩
            have n13_ : Y0 (g_2 ≠ g_0) := ⟨h13_⟩
            have n14_ : Y0 (g_3 ≠ g_2) := ⟨h14_⟩
            have n15_ : Y0 (g_2 ≠ g_3) := ⟨h15_⟩
            have n16_ : Y0 (g_4 ≠ g_2) := ⟨h16_⟩
            have n17_ : Y0 (g_2 ≠ g_4) := ⟨h17_⟩
            have n18_ : Y0 (Below w.heap.size w w156) := ⟨h18_⟩
            clear O_0
            clear O_1
            clear O_2
            clear B_0
            clear B_1
            clear B_2
            clear B_3
            clear HB
            clear h0_ h1_ h2_ h3_ h4_ h5_ h6_ h7_ h8_ h9_ h10_ h11_ h12_ h13_ h14_ h15_ h16_ h17_ h18_
            have O_0 := n0_
            have O_1 := n1_
            have O_2 := n2_
            have B_0 := n3_
            have B_1 := n4_
            have B_2 := n5_
            have B_3 := n6_
            have B_4 := n7_
            have W_0 := n8_
            have G_0 := n9_
            have N_3 := n10_
            have N_a := n11_
            have N_6 := n12_
            have N_7 := n13_
            have N_4 := n14_
            have N_9 := n15_
            have N_5 := n16_
            have N_8 := n17_
            have HB := n18_
            clear n0_ n1_ n2_ n3_ n4_ n5_ n6_ n7_ n8_ n9_ n10_ n11_ n12_ n13_ n14_ n15_ n16_ n17_ n18_
            have hHeld : w156.cell? ⟨g_1, 0, none⟩ = some (.int .i64 t_3) ∧ w156.cell? ⟨g_1, 1, none⟩ = some (.slice Ao65 t_0.length co65) := hS_
            refine norm_ (a' := ?_) ?_ ?_
            rotate_left
            ·simp only [YB, Act.put, List.setIfInBounds_toArray, List.set_cons_zero, List.set_cons_succ]
             rfl
            refine one_ (i := 1) (N := some 132) (bs 12 515) rfl rfl (YH HT_.out (by kernel_rfl)) (by decide) (fun K hK => ?_)
            refine goes_ Try.func51 (by kernel_rfl) rfl #[.int .i64 2, .int .i64 2] (by rfl) rfl rfl (by (try simp only [List.map_toArray, List.map_cons, List.map_nil]); first | done | (go_simp; done) | rfl | (simp only [List.length_drop, List.length_take]; rfl)) ?_
            with_reducible refine (Yb.calls 2 2 t_r t_p _ A39.out).mono ?_
            rintro e w157 ⟨rfl, hb⟩
            refine ⟨_, rfl, ?_⟩
            replace O_0 := Y0.mk (Kd.R_below (Kd.rU O_0.out) hb)
            replace O_1 := Y0.mk (Kd.R_below (Kd.rU O_1.out) hb)
            replace O_2 := Y0.mk (Kd.R_below (Kd.rU O_2.out) hb)
            replace B_0 := Y0.mk (Y3 (bU B_0.out) hb)
            replace B_1 := Y0.mk (Y3 (bU B_1.out) hb)
            replace B_2 := Y0.mk (Y3 (bU B_2.out) hb)
            replace B_3 := Y0.mk (Y3 (bU B_3.out) hb)
            replace B_4 := Y0.mk (Y3 (bU B_4.out) hb)
            replace HB := Y0.mk (Y5 (hU HB.out) hb)
            (try clear hb)
            (try clear hb2)
            (try clear hk)
            (try clear hi)
            refine hK.out _ _ ⟨(Y2 B_0.out 0).trans rfl, (Y2 B_0.out 1).trans rfl⟩ (fun hHeld => ?_)
            clear hK K
            refine nmA 132 ?_
            exact norm_ (by first | (simp only [YB, Act.put, List.setIfInBounds_toArray, List.set_cons_zero, List.set_cons_succ]; done) | (simp only [YB, Act.put, List.setIfInBounds_toArray, List.set_cons_zero, List.set_cons_succ]; rfl)) (hJ1_9 (g_2) _ ⟨hHeld, (Kd.rU O_0.out), (Kd.rU O_1.out), (Kd.rU O_2.out), (bU B_0.out), (bU B_1.out), (bU B_2.out), (bU B_3.out), (bU B_4.out), W_0.out, G_0.out, N_3.out, N_a.out, N_6.out, N_7.out, N_4.out, N_9.out, N_5.out, N_8.out, (hU HB.out)⟩)
          ·skip
           rintro _ w156 ⟨hS_, h0_, h1_, h2_, h3_, h4_, h5_, h6_, h7_⟩
           have n0_ : Y0 (Kd.R k30 30 w156 w.heap.size (fun k_ => some k_ ≠ (.slice Ao127 t_1.length co127 : Value).ownBlock ∧ some k_ ≠ (.slice Ao151 t_2.length co151 : Value).ownBlock) (.slice Ao65 t_0.length co65) t_0) := ⟨h0_⟩
           have n1_ : Y0 (Kd.R k30 30 w156 w.heap.size (fun k_ => some k_ ≠ (.slice Ao65 t_0.length co65 : Value).ownBlock ∧ some k_ ≠ (.slice Ao151 t_2.length co151 : Value).ownBlock) (.slice Ao127 t_1.length co127) t_1) := ⟨h1_⟩
           have n2_ : Y0 (Kd.R k30 30 w156 w.heap.size (fun k_ => some k_ ≠ (.slice Ao65 t_0.length co65 : Value).ownBlock ∧ some k_ ≠ (.slice Ao127 t_1.length co127 : Value).ownBlock) (.slice Ao151 t_2.length co151) t_2) := ⟨h2_⟩
           have n3_ : Y0 (w156.heap[g_1]? = some (.cells #[.int .i64 t_3, .slice Ao65 t_0.length co65] 24 (0, 0))) := ⟨h3_⟩
           have n4_ : Y0 (w156.heap[g_0]? = some (.cells #[.int .i64 t_5, .int .i64 t_6, .int .i64 t_7, .int .i64 t_8, .int .i64 t_a, .int .i64 t_b, .int .i64 t_c] 28 (0, 0))) := ⟨h4_⟩
           have n5_ : Y0 (w156.heap[g_3]? = some (.cells #[.int .i64 t_4, .slice Ao127 t_1.length co127] 24 (0, 0))) := ⟨h5_⟩
           have n6_ : Y0 (w156.heap[g_4]? = some (.cells #[.int .i64 t_9, .slice Ao151 t_2.length co151] 24 (0, 0))) := ⟨h6_⟩
           have n7_ : Y0 (Below w.heap.size w w156) := ⟨h7_⟩
           clear O_0
           clear O_1
           clear O_2
           clear B_0
           clear B_1
           clear B_2
           clear B_3
           clear HB
           clear h0_ h1_ h2_ h3_ h4_ h5_ h6_ h7_
           have O_0 := n0_
           have O_1 := n1_
           have O_2 := n2_
           have B_0 := n3_
           have B_1 := n4_
           have B_2 := n5_
           have B_3 := n6_
           have HB := n7_
           clear n0_ n1_ n2_ n3_ n4_ n5_ n6_ n7_
           have hHeld : w156.cell? ⟨g_1, 0, none⟩ = some (.int .i64 t_3) ∧ w156.cell? ⟨g_1, 1, none⟩ = some (.slice Ao65 t_0.length co65) := hS_
           refine norm_ (a' := ?_) ?_ ?_
           rotate_left
           ·simp only [YB, Act.put, List.setIfInBounds_toArray, List.set_cons_zero, List.set_cons_succ]
            rfl
           refine two_ (i := 2) (j := 9) (Ni := some 133) (Nj := some 14) #[true, true, true, false, false, false, false, false, false, false, false, false] #[true, true, false, false, false, false, false, false, false, true, false, false] rfl rfl rfl rfl (Y1w HT_.out (by kernel_rfl)) (by decide) (by decide) (fun K hK => ?_) (fun K hK => ?_)
           ·skip
            refine goes_ Try.func51 (by kernel_rfl) rfl #[.int .i64 2, .int .i64 2] (by rfl) rfl rfl (by (try simp only [List.map_toArray, List.map_cons, List.map_nil]); first | done | (go_simp; done) | rfl | (simp only [List.length_drop, List.length_take]; rfl)) ?_
            with_reducible refine (Yb.calls 2 2 t_t t_u _ A40.out).mono ?_
            rintro e w157 ⟨rfl, hb⟩
            refine ⟨_, rfl, ?_⟩
            replace O_0 := Y0.mk (Kd.R_below (Kd.rU O_0.out) hb)
            replace O_1 := Y0.mk (Kd.R_below (Kd.rU O_1.out) hb)
            replace O_2 := Y0.mk (Kd.R_below (Kd.rU O_2.out) hb)
            replace B_0 := Y0.mk (Y3 (bU B_0.out) hb)
            replace B_1 := Y0.mk (Y3 (bU B_1.out) hb)
            replace B_2 := Y0.mk (Y3 (bU B_2.out) hb)
            replace B_3 := Y0.mk (Y3 (bU B_3.out) hb)
            replace HB := Y0.mk (Y5 (hU HB.out) hb)
            (try clear hb)
            (try clear hb2)
            (try clear hk)
            (try clear hi)
            refine hK.out _ _ ⟨(Y2 B_0.out 0).trans rfl, (Y2 B_0.out 1).trans rfl⟩ (fun hHeld => ?_)
            clear hK K
            refine nmA 133 ?_
            exact norm_ (by first | (simp only [YB, Act.put, List.setIfInBounds_toArray, List.set_cons_zero, List.set_cons_succ]; done) | (simp only [YB, Act.put, List.setIfInBounds_toArray, List.set_cons_zero, List.set_cons_succ]; rfl)) (hJ1_2 () _ ⟨hHeld, (Kd.rU O_0.out), (Kd.rU O_1.out), (Kd.rU O_2.out), (bU B_0.out), (bU B_1.out), (bU B_2.out), (bU B_3.out), (hU HB.out)⟩)
           ·skip
            refine YY ?hg (N := 14) ?hd (cs := #[.int .i64 0, .slice none 0 0]) (t := 24) ?hr ?_; (case hd => rfl); (case hg => rfl); (case hr => first | (go_simp; done) | (go_simp; rfl))
            intro g_2 hg w157 hbox hb
            have n0_ := Y0.mk (Kd.R_below (Kd.rU O_0.out) hb)
            have n1_ := Y0.mk (Kd.R_below (Kd.rU O_1.out) hb)
            have n2_ := Y0.mk (Kd.R_below (Kd.rU O_2.out) hb)
            have n3_ := Y0.mk (Y3 (bU B_0.out) hb)
            have n4_ := Y0.mk (Y3 (bU B_1.out) hb)
            have n5_ := Y0.mk (Y3 (bU B_2.out) hb)
            have n6_ := Y0.mk (Y3 (bU B_3.out) hb)
            have n7_ := Y0.mk (Y5 (hU HB.out) hb)
            have n8_ := Y0.mk (hbox)
            have n9_ := gE hg HB
            have n10_ := gE hg HB
            have n11_ := gL hg B_0
            have n12_ := gG hg B_0
            have n13_ := gL hg B_1
            have n14_ := gG hg B_1
            have n15_ := gL hg B_2
            have n16_ := gG hg B_2
            have n17_ := gL hg B_3
            have n18_ := gG hg B_3
            clear O_0
            clear O_1
            clear O_2
            clear B_0
            clear B_1
            clear B_2
            clear B_3
            clear HB
            have O_0 := n0_
            have O_1 := n1_
            have O_2 := n2_
            have B_0 := n3_
            have B_1 := n4_
            have B_2 := n5_
            have B_3 := n6_
            have HB := n7_
            have B_4 := n8_
            have W_0 := n9_
            have G_0 := n10_
            have N_3 := n11_
            have N_a := n12_
            have N_6 := n13_
            have N_7 := n14_
            have N_4 := n15_
            have N_9 := n16_
            have N_5 := n17_
            have N_8 := n18_
            clear n0_ n1_ n2_ n3_ n4_ n5_ n6_ n7_ n8_ n9_ n10_ n11_ n12_ n13_ n14_ n15_ n16_ n17_ n18_
            clear hb hbox hg
            refine hK.out _ _ ⟨(Y2 B_0.out 0).trans rfl, (Y2 B_0.out 1).trans rfl⟩ (fun hHeld => ?_)
            clear hK K
            refine nmA 14 ?_
            exact norm_ (by first | (simp only [YB, Act.put, List.setIfInBounds_toArray, List.set_cons_zero, List.set_cons_succ]; done) | (simp only [YB, Act.put, List.setIfInBounds_toArray, List.set_cons_zero, List.set_cons_succ]; rfl)) (hJ1_9 (g_2) _ ⟨hHeld, (Kd.rU O_0.out), (Kd.rU O_1.out), (Kd.rU O_2.out), (bU B_0.out), (bU B_1.out), (bU B_2.out), (bU B_3.out), (bU B_4.out), W_0.out, G_0.out, N_3.out, N_a.out, N_6.out, N_7.out, N_4.out, N_9.out, N_5.out, N_8.out, (hU HB.out)⟩)
         ·skip
          rintro g_2 w157 ⟨hS_, h0_, h1_, h2_, h3_, h4_, h5_, h6_, h7_, h8_, h9_, h10_, h11_, h12_, h13_, h14_, h15_, h16_, h17_, h18_⟩
          have n0_ : Y0 (Kd.R k30 30 w157 w.heap.size (fun k_ => some k_ ≠ (.slice Ao127 t_1.length co127 : Value).ownBlock ∧ some k_ ≠ (.slice Ao151 t_2.length co151 : Value).ownBlock) (.slice Ao65 t_0.length co65) t_0) := ⟨h0_⟩
          have n1_ : Y0 (Kd.R k30 30 w157 w.heap.size (fun k_ => some k_ ≠ (.slice Ao65 t_0.length co65 : Value).ownBlock ∧ some k_ ≠ (.slice Ao151 t_2.length co151 : Value).ownBlock) (.slice Ao127 t_1.length co127) t_1) := ⟨h1_⟩
          have n2_ : Y0 (Kd.R k30 30 w157 w.heap.size (fun k_ => some k_ ≠ (.slice Ao65 t_0.length co65 : Value).ownBlock ∧ some k_ ≠ (.slice Ao127 t_1.length co127 : Value).ownBlock) (.slice Ao151 t_2.length co151) t_2) := ⟨h2_⟩
          have n3_ : Y0 (w157.heap[g_1]? = some (.cells #[.int .i64 t_3, .slice Ao65 t_0.length co65] 24 (0, 0))) := ⟨h3_⟩
          have n4_ : Y0 (w157.heap[g_0]? = some (.cells #[.int .i64 t_5, .int .i64 t_6, .int .i64 t_7, .int .i64 t_8, .int .i64 t_a, .int .i64 t_b, .int .i64 t_c] 28 (0, 0))) := ⟨h4_⟩
          have n5_ : Y0 (w157.heap[g_3]? = some (.cells #[.int .i64 t_4, .slice Ao127 t_1.length co127] 24 (0, 0))) := ⟨h5_⟩
          have n6_ : Y0 (w157.heap[g_4]? = some (.cells #[.int .i64 t_9, .slice Ao151 t_2.length co151] 24 (0, 0))) := ⟨h6_⟩
          have n7_ : Y0 (w157.heap[g_2]? = some (.cells #[.int .i64 0, .slice none 0 0] 24 (0, 0))) := ⟨h7_⟩
          have n8_ : Y0 (w.heap.size ≤ g_2) := ⟨h8_⟩
          have n9_ : Y0 (w.heap.size ≤ g_2) := ⟨h9_⟩
          have n10_ : Y0 (g_1 ≠ g_2) := ⟨h10_⟩
          have n11_ : Y0 (g_2 ≠ g_1) := ⟨h11_⟩
          have n12_ : Y0 (g_0 ≠ g_2) := ⟨h12_⟩
          have n13_ : Y0 (g_2 ≠ g_0) := ⟨h13_⟩
          have n14_ : Y0 (g_3 ≠ g_2) := ⟨h14_⟩
          have n15_ : Y0 (g_2 ≠ g_3) := ⟨h15_⟩
          have n16_ : Y0 (g_4 ≠ g_2) := ⟨h16_⟩
          have n17_ : Y0 (g_2 ≠ g_4) := ⟨h17_⟩
          have n18_ : Y0 (Below w.heap.size w w157) := ⟨h18_⟩
          clear O_0
          clear O_1
          clear O_2
          clear B_0
          clear B_1
          clear B_2
          clear B_3
          clear HB
          clear h0_ h1_ h2_ h3_ h4_ h5_ h6_ h7_ h8_ h9_ h10_ h11_ h12_ h13_ h14_ h15_ h16_ h17_ h18_
          have O_0 := n0_
          have O_1 := n1_
          have O_2 := n2_
          have B_0 := n3_
          have B_1 := n4_
          have B_2 := n5_
          have B_3 := n6_
          have B_4 := n7_
          have W_0 := n8_
          have G_0 := n9_
          have N_3 := n10_
          have N_a := n11_
          have N_6 := n12_
          have N_7 := n13_
          have N_4 := n14_
          have N_9 := n15_
          have N_5 := n16_
          have N_8 := n17_
          have HB := n18_
          clear n0_ n1_ n2_ n3_ n4_ n5_ n6_ n7_ n8_ n9_ n10_ n11_ n12_ n13_ n14_ n15_ n16_ n17_ n18_
          have hHeld : w157.cell? ⟨g_1, 0, none⟩ = some (.int .i64 t_3) ∧ w157.cell? ⟨g_1, 1, none⟩ = some (.slice Ao65 t_0.length co65) := hS_
          refine norm_ (a' := ?_) ?_ ?_
          rotate_left
          ·simp only [YB, Act.put, List.setIfInBounds_toArray, List.set_cons_zero, List.set_cons_succ]
           rfl
          refine one_ (i := 2) (N := some 133) (bs 12 519) rfl rfl (YH HT_.out (by kernel_rfl)) (by decide) (fun K hK => ?_)
          refine goes_ Try.func51 (by kernel_rfl) rfl #[.int .i64 2, .int .i64 2] (by rfl) rfl rfl (by (try simp only [List.map_toArray, List.map_cons, List.map_nil]); first | done | (go_simp; done) | rfl | (simp only [List.length_drop, List.length_take]; rfl)) ?_
          with_reducible refine (Yb.calls 2 2 t_t t_u _ A40.out).mono ?_
          rintro e w158 ⟨rfl, hb⟩
          refine ⟨_, rfl, ?_⟩
          replace O_0 := Y0.mk (Kd.R_below (Kd.rU O_0.out) hb)
          replace O_1 := Y0.mk (Kd.R_below (Kd.rU O_1.out) hb)
          replace O_2 := Y0.mk (Kd.R_below (Kd.rU O_2.out) hb)
          replace B_0 := Y0.mk (Y3 (bU B_0.out) hb)
          replace B_1 := Y0.mk (Y3 (bU B_1.out) hb)
          replace B_2 := Y0.mk (Y3 (bU B_2.out) hb)
          replace B_3 := Y0.mk (Y3 (bU B_3.out) hb)
          replace B_4 := Y0.mk (Y3 (bU B_4.out) hb)
          replace HB := Y0.mk (Y5 (hU HB.out) hb)
          (try clear hb)
          (try clear hb2)
          (try clear hk)
          (try clear hi)
          refine hK.out _ _ ⟨(Y2 B_0.out 0).trans rfl, (Y2 B_0.out 1).trans rfl⟩ (fun hHeld => ?_)
          clear hK K
          refine nmA 133 ?_
          exact norm_ (by first | (simp only [YB, Act.put, List.setIfInBounds_toArray, List.set_cons_zero, List.set_cons_succ]; done) | (simp only [YB, Act.put, List.setIfInBounds_toArray, List.set_cons_zero, List.set_cons_succ]; rfl)) (hJ1_2_9 (g_2) _ ⟨hHeld, (Kd.rU O_0.out), (Kd.rU O_1.out), (Kd.rU O_2.out), (bU B_0.out), (bU B_1.out), (bU B_2.out), (bU B_3.out), (bU B_4.out), W_0.out, G_0.out, N_3.out, N_a.out, N_6.out, N_7.out, N_4.out, N_9.out, N_5.out, N_8.out, (hU HB.out)⟩)
        ·skip
         rintro _ w157 ⟨hS_, h0_, h1_, h2_, h3_, h4_, h5_, h6_, h7_⟩
         have n0_ : Y0 (Kd.R k30 30 w157 w.heap.size (fun k_ => some k_ ≠ (.slice Ao127 t_1.length co127 : Value).ownBlock ∧ some k_ ≠ (.slice Ao151 t_2.length co151 : Value).ownBlock) (.slice Ao65 t_0.length co65) t_0) := ⟨h0_⟩
         have n1_ : Y0 (Kd.R k30 30 w157 w.heap.size (fun k_ => some k_ ≠ (.slice Ao65 t_0.length co65 : Value).ownBlock ∧ some k_ ≠ (.slice Ao151 t_2.length co151 : Value).ownBlock) (.slice Ao127 t_1.length co127) t_1) := ⟨h1_⟩
         have n2_ : Y0 (Kd.R k30 30 w157 w.heap.size (fun k_ => some k_ ≠ (.slice Ao65 t_0.length co65 : Value).ownBlock ∧ some k_ ≠ (.slice Ao127 t_1.length co127 : Value).ownBlock) (.slice Ao151 t_2.length co151) t_2) := ⟨h2_⟩
         have n3_ : Y0 (w157.heap[g_1]? = some (.cells #[.int .i64 t_3, .slice Ao65 t_0.length co65] 24 (0, 0))) := ⟨h3_⟩
         have n4_ : Y0 (w157.heap[g_0]? = some (.cells #[.int .i64 t_5, .int .i64 t_6, .int .i64 t_7, .int .i64 t_8, .int .i64 t_a, .int .i64 t_b, .int .i64 t_c] 28 (0, 0))) := ⟨h4_⟩
         have n5_ : Y0 (w157.heap[g_3]? = some (.cells #[.int .i64 t_4, .slice Ao127 t_1.length co127] 24 (0, 0))) := ⟨h5_⟩
         have n6_ : Y0 (w157.heap[g_4]? = some (.cells #[.int .i64 t_9, .slice Ao151 t_2.length co151] 24 (0, 0))) := ⟨h6_⟩
         have n7_ : Y0 (Below w.heap.size w w157) := ⟨h7_⟩
         clear O_0
         clear O_1
         clear O_2
         clear B_0
         clear B_1
         clear B_2
         clear B_3
         clear HB
         clear h0_ h1_ h2_ h3_ h4_ h5_ h6_ h7_
         have O_0 := n0_
         have O_1 := n1_
         have O_2 := n2_
         have B_0 := n3_
         have B_1 := n4_
         have B_2 := n5_
         have B_3 := n6_
         have HB := n7_
         clear n0_ n1_ n2_ n3_ n4_ n5_ n6_ n7_
         have hHeld : w157.cell? ⟨g_1, 0, none⟩ = some (.int .i64 t_3) ∧ w157.cell? ⟨g_1, 1, none⟩ = some (.slice Ao65 t_0.length co65) := hS_
         refine norm_ (a' := ?_) ?_ ?_
         rotate_left
         ·simp only [YB, Act.put, List.setIfInBounds_toArray, List.set_cons_zero, List.set_cons_succ]
          rfl
         refine two_ (i := 3) (j := 9) (Ni := some 134) (Nj := some 14) #[true, true, true, true, false, false, false, false, false, false, false, false] #[true, true, true, false, false, false, false, false, false, true, false, false] rfl rfl rfl rfl (Y1w HT_.out (by kernel_rfl)) (by decide) (by decide) (fun K hK => ?_) (fun K hK => ?_)
         ·skip
          refine goes_ Try.func49 (by kernel_rfl) rfl #[] (by rfl) rfl rfl (by (try simp only [List.map_toArray, List.map_cons, List.map_nil]); first | done | (go_simp; done) | rfl | (simp only [List.length_drop, List.length_take]; rfl)) ?_
          with_reducible refine (Yw.calls  t363 t364 t365 t366 t367 t368 t369 _ A41.out).mono ?_
          rintro e w158 ⟨rfl, hb⟩
          refine ⟨_, rfl, ?_⟩
          replace O_0 := Y0.mk (Kd.R_below (Kd.rU O_0.out) hb)
          replace O_1 := Y0.mk (Kd.R_below (Kd.rU O_1.out) hb)
          replace O_2 := Y0.mk (Kd.R_below (Kd.rU O_2.out) hb)
          replace B_0 := Y0.mk (Y3 (bU B_0.out) hb)
          replace B_1 := Y0.mk (Y3 (bU B_1.out) hb)
          replace B_2 := Y0.mk (Y3 (bU B_2.out) hb)
          replace B_3 := Y0.mk (Y3 (bU B_3.out) hb)
          replace HB := Y0.mk (Y5 (hU HB.out) hb)
          (try clear hb)
          (try clear hb2)
          (try clear hk)
          (try clear hi)
          refine hK.out _ _ ⟨(Y2 B_0.out 0).trans rfl, (Y2 B_0.out 1).trans rfl⟩ (fun hHeld => ?_)
          clear hK K
          refine nmA 134 ?_
          exact norm_ (by first | (simp only [YB, Act.put, List.setIfInBounds_toArray, List.set_cons_zero, List.set_cons_succ]; done) | (simp only [YB, Act.put, List.setIfInBounds_toArray, List.set_cons_zero, List.set_cons_succ]; rfl)) (hJ1_2_3 () _ ⟨hHeld, (Kd.rU O_0.out), (Kd.rU O_1.out), (Kd.rU O_2.out), (bU B_0.out), (bU B_1.out), (bU B_2.out), (bU B_3.out), (hU HB.out)⟩)
         ·skip
          refine YY ?hg (N := 14) ?hd (cs := #[.int .i64 0, .slice none 0 0]) (t := 24) ?hr ?_; (case hd => rfl); (case hg => rfl); (case hr => first | (go_simp; done) | (go_simp; rfl))
          intro g_2 hg w158 hbox hb
          have n0_ := Y0.mk (Kd.R_below (Kd.rU O_0.out) hb)
          have n1_ := Y0.mk (Kd.R_below (Kd.rU O_1.out) hb)
          have n2_ := Y0.mk (Kd.R_below (Kd.rU O_2.out) hb)
          have n3_ := Y0.mk (Y3 (bU B_0.out) hb)
          have n4_ := Y0.mk (Y3 (bU B_1.out) hb)
          have n5_ := Y0.mk (Y3 (bU B_2.out) hb)
          have n6_ := Y0.mk (Y3 (bU B_3.out) hb)
          have n7_ := Y0.mk (Y5 (hU HB.out) hb)
          have n8_ := Y0.mk (hbox)
          have n9_ := gE hg HB
          have n10_ := gE hg HB
          have n11_ := gL hg B_0
          have n12_ := gG hg B_0
          have n13_ := gL hg B_1
          have n14_ := gG hg B_1
          have n15_ := gL hg B_2
          have n16_ := gG hg B_2
          have n17_ := gL hg B_3
          have n18_ := gG hg B_3
          clear O_0
          clear O_1
          clear O_2
          clear B_0
          clear B_1
          clear B_2
          clear B_3
          clear HB
          have O_0 := n0_
          have O_1 := n1_
          have O_2 := n2_
          have B_0 := n3_
          have B_1 := n4_
          have B_2 := n5_
          have B_3 := n6_
          have HB := n7_
          have B_4 := n8_
          have W_0 := n9_
          have G_0 := n10_
          have N_3 := n11_
          have N_a := n12_
          have N_6 := n13_
          have N_7 := n14_
          have N_4 := n15_
          have N_9 := n16_
          have N_5 := n17_
          have N_8 := n18_
          clear n0_ n1_ n2_ n3_ n4_ n5_ n6_ n7_ n8_ n9_ n10_ n11_ n12_ n13_ n14_ n15_ n16_ n17_ n18_
          clear hb hbox hg
          refine hK.out _ _ ⟨(Y2 B_0.out 0).trans rfl, (Y2 B_0.out 1).trans rfl⟩ (fun hHeld => ?_)
          clear hK K
          refine nmA 14 ?_
          exact norm_ (by first | (simp only [YB, Act.put, List.setIfInBounds_toArray, List.set_cons_zero, List.set_cons_succ]; done) | (simp only [YB, Act.put, List.setIfInBounds_toArray, List.set_cons_zero, List.set_cons_succ]; rfl)) (hJ1_2_9 (g_2) _ ⟨hHeld, (Kd.rU O_0.out), (Kd.rU O_1.out), (Kd.rU O_2.out), (bU B_0.out), (bU B_1.out), (bU B_2.out), (bU B_3.out), (bU B_4.out), W_0.out, G_0.out, N_3.out, N_a.out, N_6.out, N_7.out, N_4.out, N_9.out, N_5.out, N_8.out, (hU HB.out)⟩)
       ·skip
        rintro g_2 w158 ⟨hS_, h0_, h1_, h2_, h3_, h4_, h5_, h6_, h7_, h8_, h9_, h10_, h11_, h12_, h13_, h14_, h15_, h16_, h17_, h18_⟩
        have n0_ : Y0 (Kd.R k30 30 w158 w.heap.size (fun k_ => some k_ ≠ (.slice Ao127 t_1.length co127 : Value).ownBlock ∧ some k_ ≠ (.slice Ao151 t_2.length co151 : Value).ownBlock) (.slice Ao65 t_0.length co65) t_0) := ⟨h0_⟩
        have n1_ : Y0 (Kd.R k30 30 w158 w.heap.size (fun k_ => some k_ ≠ (.slice Ao65 t_0.length co65 : Value).ownBlock ∧ some k_ ≠ (.slice Ao151 t_2.length co151 : Value).ownBlock) (.slice Ao127 t_1.length co127) t_1) := ⟨h1_⟩
        have n2_ : Y0 (Kd.R k30 30 w158 w.heap.size (fun k_ => some k_ ≠ (.slice Ao65 t_0.length co65 : Value).ownBlock ∧ some k_ ≠ (.slice Ao127 t_1.length co127 : Value).ownBlock) (.slice Ao151 t_2.length co151) t_2) := ⟨h2_⟩
        have n3_ : Y0 (w158.heap[g_1]? = some (.cells #[.int .i64 t_3, .slice Ao65 t_0.length co65] 24 (0, 0))) := ⟨h3_⟩
        have n4_ : Y0 (w158.heap[g_0]? = some (.cells #[.int .i64 t_5, .int .i64 t_6, .int .i64 t_7, .int .i64 t_8, .int .i64 t_a, .int .i64 t_b, .int .i64 t_c] 28 (0, 0))) := ⟨h4_⟩
        have n5_ : Y0 (w158.heap[g_3]? = some (.cells #[.int .i64 t_4, .slice Ao127 t_1.length co127] 24 (0, 0))) := ⟨h5_⟩
        have n6_ : Y0 (w158.heap[g_4]? = some (.cells #[.int .i64 t_9, .slice Ao151 t_2.length co151] 24 (0, 0))) := ⟨h6_⟩
        have n7_ : Y0 (w158.heap[g_2]? = some (.cells #[.int .i64 0, .slice none 0 0] 24 (0, 0))) := ⟨h7_⟩
        have n8_ : Y0 (w.heap.size ≤ g_2) := ⟨h8_⟩
        have n9_ : Y0 (w.heap.size ≤ g_2) := ⟨h9_⟩
        have n10_ : Y0 (g_1 ≠ g_2) := ⟨h10_⟩
        have n11_ : Y0 (g_2 ≠ g_1) := ⟨h11_⟩
        have n12_ : Y0 (g_0 ≠ g_2) := ⟨h12_⟩
        have n13_ : Y0 (g_2 ≠ g_0) := ⟨h13_⟩
        have n14_ : Y0 (g_3 ≠ g_2) := ⟨h14_⟩
        have n15_ : Y0 (g_2 ≠ g_3) := ⟨h15_⟩
        have n16_ : Y0 (g_4 ≠ g_2) := ⟨h16_⟩
        have n17_ : Y0 (g_2 ≠ g_4) := ⟨h17_⟩
        have n18_ : Y0 (Below w.heap.size w w158) := ⟨h18_⟩
        clear O_0
        clear O_1
        clear O_2
        clear B_0
        clear B_1
        clear B_2
        clear B_3
        clear HB
        clear h0_ h1_ h2_ h3_ h4_ h5_ h6_ h7_ h8_ h9_ h10_ h11_ h12_ h13_ h14_ h15_ h16_ h17_ h18_
        have O_0 := n0_
        have O_1 := n1_
        have O_2 := n2_
        have B_0 := n3_
        have B_1 := n4_
        have B_2 := n5_
        have B_3 := n6_
        have B_4 := n7_
        have W_0 := n8_
        have G_0 := n9_
        have N_3 := n10_
        have N_a := n11_
        have N_6 := n12_
        have N_7 := n13_
        have N_4 := n14_
        have N_9 := n15_
        have N_5 := n16_
        have N_8 := n17_
        have HB := n18_
        clear n0_ n1_ n2_ n3_ n4_ n5_ n6_ n7_ n8_ n9_ n10_ n11_ n12_ n13_ n14_ n15_ n16_ n17_ n18_
        have hHeld : w158.cell? ⟨g_1, 0, none⟩ = some (.int .i64 t_3) ∧ w158.cell? ⟨g_1, 1, none⟩ = some (.slice Ao65 t_0.length co65) := hS_
        refine norm_ (a' := ?_) ?_ ?_
        rotate_left
        ·simp only [YB, Act.put, List.setIfInBounds_toArray, List.set_cons_zero, List.set_cons_succ]
         rfl
        refine one_ (i := 3) (N := some 134) (bs 12 527) rfl rfl (YH HT_.out (by kernel_rfl)) (by decide) (fun K hK => ?_)
        refine goes_ Try.func49 (by kernel_rfl) rfl #[] (by rfl) rfl rfl (by (try simp only [List.map_toArray, List.map_cons, List.map_nil]); first | done | (go_simp; done) | rfl | (simp only [List.length_drop, List.length_take]; rfl)) ?_
        with_reducible refine (Yw.calls  t363 t364 t365 t366 t367 t368 t369 _ A41.out).mono ?_
        rintro e w159 ⟨rfl, hb⟩
        refine ⟨_, rfl, ?_⟩
        replace O_0 := Y0.mk (Kd.R_below (Kd.rU O_0.out) hb)
        replace O_1 := Y0.mk (Kd.R_below (Kd.rU O_1.out) hb)
        replace O_2 := Y0.mk (Kd.R_below (Kd.rU O_2.out) hb)
        replace B_0 := Y0.mk (Y3 (bU B_0.out) hb)
        replace B_1 := Y0.mk (Y3 (bU B_1.out) hb)
        replace B_2 := Y0.mk (Y3 (bU B_2.out) hb)
        replace B_3 := Y0.mk (Y3 (bU B_3.out) hb)
        replace B_4 := Y0.mk (Y3 (bU B_4.out) hb)
        replace HB := Y0.mk (Y5 (hU HB.out) hb)
        (try clear hb)
        (try clear hb2)
        (try clear hk)
        (try clear hi)
        refine hK.out _ _ ⟨(Y2 B_0.out 0).trans rfl, (Y2 B_0.out 1).trans rfl⟩ (fun hHeld => ?_)
        clear hK K
        refine nmA 134 ?_
        exact norm_ (by first | (simp only [YB, Act.put, List.setIfInBounds_toArray, List.set_cons_zero, List.set_cons_succ]; done) | (simp only [YB, Act.put, List.setIfInBounds_toArray, List.set_cons_zero, List.set_cons_succ]; rfl)) (hJ1_2_3_9 (g_2) _ ⟨hHeld, (Kd.rU O_0.out), (Kd.rU O_1.out), (Kd.rU O_2.out), (bU B_0.out), (bU B_1.out), (bU B_2.out), (bU B_3.out), (bU B_4.out), W_0.out, G_0.out, N_3.out, N_a.out, N_6.out, N_7.out, N_4.out, N_9.out, N_5.out, N_8.out, (hU HB.out)⟩)
      ·skip
       rintro _ w158 ⟨hS_, h0_, h1_, h2_, h3_, h4_, h5_, h6_, h7_⟩
       have n0_ : Y0 (Kd.R k30 30 w158 w.heap.size (fun k_ => some k_ ≠ (.slice Ao127 t_1.length co127 : Value).ownBlock ∧ some k_ ≠ (.slice Ao151 t_2.length co151 : Value).ownBlock) (.slice Ao65 t_0.length co65) t_0) := ⟨h0_⟩
       have n1_ : Y0 (Kd.R k30 30 w158 w.heap.size (fun k_ => some k_ ≠ (.slice Ao65 t_0.length co65 : Value).ownBlock ∧ some k_ ≠ (.slice Ao151 t_2.length co151 : Value).ownBlock) (.slice Ao127 t_1.length co127) t_1) := ⟨h1_⟩
       have n2_ : Y0 (Kd.R k30 30 w158 w.heap.size (fun k_ => some k_ ≠ (.slice Ao65 t_0.length co65 : Value).ownBlock ∧ some k_ ≠ (.slice Ao127 t_1.length co127 : Value).ownBlock) (.slice Ao151 t_2.length co151) t_2) := ⟨h2_⟩
       have n3_ : Y0 (w158.heap[g_1]? = some (.cells #[.int .i64 t_3, .slice Ao65 t_0.length co65] 24 (0, 0))) := ⟨h3_⟩
       have n4_ : Y0 (w158.heap[g_0]? = some (.cells #[.int .i64 t_5, .int .i64 t_6, .int .i64 t_7, .int .i64 t_8, .int .i64 t_a, .int .i64 t_b, .int .i64 t_c] 28 (0, 0))) := ⟨h4_⟩
       have n5_ : Y0 (w158.heap[g_3]? = some (.cells #[.int .i64 t_4, .slice Ao127 t_1.length co127] 24 (0, 0))) := ⟨h5_⟩
       have n6_ : Y0 (w158.heap[g_4]? = some (.cells #[.int .i64 t_9, .slice Ao151 t_2.length co151] 24 (0, 0))) := ⟨h6_⟩
       have n7_ : Y0 (Below w.heap.size w w158) := ⟨h7_⟩
       clear O_0
       clear O_1
       clear O_2
       clear B_0
       clear B_1
       clear B_2
       clear B_3
       clear HB
       clear h0_ h1_ h2_ h3_ h4_ h5_ h6_ h7_
       have O_0 := n0_
       have O_1 := n1_
       have O_2 := n2_
       have B_0 := n3_
       have B_1 := n4_
       have B_2 := n5_
       have B_3 := n6_
       have HB := n7_
       clear n0_ n1_ n2_ n3_ n4_ n5_ n6_ n7_
       have hHeld : w158.cell? ⟨g_1, 0, none⟩ = some (.int .i64 t_3) ∧ w158.cell? ⟨g_1, 1, none⟩ = some (.slice Ao65 t_0.length co65) := hS_
       refine norm_ (a' := ?_) ?_ ?_
       rotate_left
       ·simp only [YB, Act.put, List.setIfInBounds_toArray, List.set_cons_zero, List.set_cons_succ]
        rfl
       refine two_ (i := 4) (j := 9) (Ni := some 135) (Nj := some 14) #[true, true, true, true, true, false, false, false, false, false, false, false] #[true, true, true, true, false, false, false, false, false, true, false, false] rfl rfl rfl rfl (Y1w HT_.out (by kernel_rfl)) (by decide) (by decide) (fun K hK => ?_) (fun K hK => ?_)
       ·skip
        refine goes_ Try.func52 (by kernel_rfl) rfl #[.agg #[.int .i64 t_r, .int .i64 t_p], .agg #[.int .i64 t_t, .int .i64 t_u], .agg #[.int .i64 t363, .int .i64 t364, .int .i64 t365, .int .i64 t366, .int .i64 t367, .int .i64 t368, .int .i64 t369]] (by rfl) rfl rfl (by (try simp only [List.map_toArray, List.map_cons, List.map_nil]); first | done | (go_simp; done) | rfl | (simp only [List.length_drop, List.length_take]; rfl)) ?_
        with_reducible refine (Yp.calls t_r t_p t_t t_u t363 t364 t365 t366 t367 t368 t369 t370 t371 t372 t373 t374 t375 t376 t377 t378 t379 t380 t381 t382 _ A42.out).mono ?_
        rintro e w159 ⟨rfl, hb⟩
        refine ⟨_, rfl, ?_⟩
        replace O_0 := Y0.mk (Kd.R_below (Kd.rU O_0.out) hb)
        replace O_1 := Y0.mk (Kd.R_below (Kd.rU O_1.out) hb)
        replace O_2 := Y0.mk (Kd.R_below (Kd.rU O_2.out) hb)
        replace B_0 := Y0.mk (Y3 (bU B_0.out) hb)
        replace B_1 := Y0.mk (Y3 (bU B_1.out) hb)
        replace B_2 := Y0.mk (Y3 (bU B_2.out) hb)
        replace B_3 := Y0.mk (Y3 (bU B_3.out) hb)
        replace HB := Y0.mk (Y5 (hU HB.out) hb)
        (try clear hb)
        (try clear hb2)
        (try clear hk)
        (try clear hi)
        refine hK.out _ _ ⟨(Y2 B_0.out 0).trans rfl, (Y2 B_0.out 1).trans rfl⟩ (fun hHeld => ?_)
        clear hK K
        refine nmA 135 ?_
        exact norm_ (by first | (simp only [YB, Act.put, List.setIfInBounds_toArray, List.set_cons_zero, List.set_cons_succ]; done) | (simp only [YB, Act.put, List.setIfInBounds_toArray, List.set_cons_zero, List.set_cons_succ]; rfl)) (hJ1_2_3_4 () _ ⟨hHeld, (Kd.rU O_0.out), (Kd.rU O_1.out), (Kd.rU O_2.out), (bU B_0.out), (bU B_1.out), (bU B_2.out), (bU B_3.out), (hU HB.out)⟩)
       ·skip
        refine YY ?hg (N := 14) ?hd (cs := #[.int .i64 0, .slice none 0 0]) (t := 24) ?hr ?_; (case hd => rfl); (case hg => rfl); (case hr => first | (go_simp; done) | (go_simp; rfl))
        intro g_2 hg w159 hbox hb
        have n0_ := Y0.mk (Kd.R_below (Kd.rU O_0.out) hb)
        have n1_ := Y0.mk (Kd.R_below (Kd.rU O_1.out) hb)
        have n2_ := Y0.mk (Kd.R_below (Kd.rU O_2.out) hb)
        have n3_ := Y0.mk (Y3 (bU B_0.out) hb)
        have n4_ := Y0.mk (Y3 (bU B_1.out) hb)
        have n5_ := Y0.mk (Y3 (bU B_2.out) hb)
        have n6_ := Y0.mk (Y3 (bU B_3.out) hb)
        have n7_ := Y0.mk (Y5 (hU HB.out) hb)
        have n8_ := Y0.mk (hbox)
        have n9_ := gE hg HB
        have n10_ := gE hg HB
        have n11_ := gL hg B_0
        have n12_ := gG hg B_0
        have n13_ := gL hg B_1
        have n14_ := gG hg B_1
        have n15_ := gL hg B_2
        have n16_ := gG hg B_2
        have n17_ := gL hg B_3
        have n18_ := gG hg B_3
        clear O_0
        clear O_1
        clear O_2
        clear B_0
        clear B_1
        clear B_2
        clear B_3
        clear HB
        have O_0 := n0_
        have O_1 := n1_
        have O_2 := n2_
        have B_0 := n3_
        have B_1 := n4_
        have B_2 := n5_
        have B_3 := n6_
        have HB := n7_
        have B_4 := n8_
        have W_0 := n9_
        have G_0 := n10_
        have N_3 := n11_
        have N_a := n12_
        have N_6 := n13_
        have N_7 := n14_
        have N_4 := n15_
        have N_9 := n16_
        have N_5 := n17_
        have N_8 := n18_
        clear n0_ n1_ n2_ n3_ n4_ n5_ n6_ n7_ n8_ n9_ n10_ n11_ n12_ n13_ n14_ n15_ n16_ n17_ n18_
        clear hb hbox hg
        refine hK.out _ _ ⟨(Y2 B_0.out 0).trans rfl, (Y2 B_0.out 1).trans rfl⟩ (fun hHeld => ?_)
        clear hK K
        refine nmA 14 ?_
        exact norm_ (by first | (simp only [YB, Act.put, List.setIfInBounds_toArray, List.set_cons_zero, List.set_cons_succ]; done) | (simp only [YB, Act.put, List.setIfInBounds_toArray, List.set_cons_zero, List.set_cons_succ]; rfl)) (hJ1_2_3_9 (g_2) _ ⟨hHeld, (Kd.rU O_0.out), (Kd.rU O_1.out), (Kd.rU O_2.out), (bU B_0.out), (bU B_1.out), (bU B_2.out), (bU B_3.out), (bU B_4.out), W_0.out, G_0.out, N_3.out, N_a.out, N_6.out, N_7.out, N_4.out, N_9.out, N_5.out, N_8.out, (hU HB.out)⟩)
     ·skip
      rintro g_2 w159 ⟨hS_, h0_, h1_, h2_, h3_, h4_, h5_, h6_, h7_, h8_, h9_, h10_, h11_, h12_, h13_, h14_, h15_, h16_, h17_, h18_⟩
      have n0_ : Y0 (Kd.R k30 30 w159 w.heap.size (fun k_ => some k_ ≠ (.slice Ao127 t_1.length co127 : Value).ownBlock ∧ some k_ ≠ (.slice Ao151 t_2.length co151 : Value).ownBlock) (.slice Ao65 t_0.length co65) t_0) := ⟨h0_⟩
      have n1_ : Y0 (Kd.R k30 30 w159 w.heap.size (fun k_ => some k_ ≠ (.slice Ao65 t_0.length co65 : Value).ownBlock ∧ some k_ ≠ (.slice Ao151 t_2.length co151 : Value).ownBlock) (.slice Ao127 t_1.length co127) t_1) := ⟨h1_⟩
      have n2_ : Y0 (Kd.R k30 30 w159 w.heap.size (fun k_ => some k_ ≠ (.slice Ao65 t_0.length co65 : Value).ownBlock ∧ some k_ ≠ (.slice Ao127 t_1.length co127 : Value).ownBlock) (.slice Ao151 t_2.length co151) t_2) := ⟨h2_⟩
      have n3_ : Y0 (w159.heap[g_1]? = some (.cells #[.int .i64 t_3, .slice Ao65 t_0.length co65] 24 (0, 0))) := ⟨h3_⟩
      have n4_ : Y0 (w159.heap[g_0]? = some (.cells #[.int .i64 t_5, .int .i64 t_6, .int .i64 t_7, .int .i64 t_8, .int .i64 t_a, .int .i64 t_b, .int .i64 t_c] 28 (0, 0))) := ⟨h4_⟩
      have n5_ : Y0 (w159.heap[g_3]? = some (.cells #[.int .i64 t_4, .slice Ao127 t_1.length co127] 24 (0, 0))) := ⟨h5_⟩
      have n6_ : Y0 (w159.heap[g_4]? = some (.cells #[.int .i64 t_9, .slice Ao151 t_2.length co151] 24 (0, 0))) := ⟨h6_⟩
      have n7_ : Y0 (w159.heap[g_2]? = some (.cells #[.int .i64 0, .slice none 0 0] 24 (0, 0))) := ⟨h7_⟩
      have n8_ : Y0 (w.heap.size ≤ g_2) := ⟨h8_⟩
      have n9_ : Y0 (w.heap.size ≤ g_2) := ⟨h9_⟩
      have n10_ : Y0 (g_1 ≠ g_2) := ⟨h10_⟩
      have n11_ : Y0 (g_2 ≠ g_1) := ⟨h11_⟩
      have n12_ : Y0 (g_0 ≠ g_2) := ⟨h12_⟩
      have n13_ : Y0 (g_2 ≠ g_0) := ⟨h13_⟩
      have n14_ : Y0 (g_3 ≠ g_2) := ⟨h14_⟩
      have n15_ : Y0 (g_2 ≠ g_3) := ⟨h15_⟩
      have n16_ : Y0 (g_4 ≠ g_2) := ⟨h16_⟩
      have n17_ : Y0 (g_2 ≠ g_4) := ⟨h17_⟩
      have n18_ : Y0 (Below w.heap.size w w159) := ⟨h18_⟩
      clear O_0
      clear O_1
      clear O_2
      clear B_0
      clear B_1
      clear B_2
      clear B_3
      clear HB
      clear h0_ h1_ h2_ h3_ h4_ h5_ h6_ h7_ h8_ h9_ h10_ h11_ h12_ h13_ h14_ h15_ h16_ h17_ h18_
      have O_0 := n0_
      have O_1 := n1_
      have O_2 := n2_
      have B_0 := n3_
      have B_1 := n4_
      have B_2 := n5_
      have B_3 := n6_
      have B_4 := n7_
      have W_0 := n8_
      have G_0 := n9_
      have N_3 := n10_
      have N_a := n11_
      have N_6 := n12_
      have N_7 := n13_
      have N_4 := n14_
      have N_9 := n15_
      have N_5 := n16_
      have N_8 := n17_
      have HB := n18_
      clear n0_ n1_ n2_ n3_ n4_ n5_ n6_ n7_ n8_ n9_ n10_ n11_ n12_ n13_ n14_ n15_ n16_ n17_ n18_
      have hHeld : w159.cell? ⟨g_1, 0, none⟩ = some (.int .i64 t_3) ∧ w159.cell? ⟨g_1, 1, none⟩ = some (.slice Ao65 t_0.length co65) := hS_
      refine norm_ (a' := ?_) ?_ ?_
      rotate_left
      ·simp only [YB, Act.put, List.setIfInBounds_toArray, List.set_cons_zero, List.set_cons_succ]
       rfl
      refine one_ (i := 4) (N := some 135) (bs 12 543) rfl rfl (YH HT_.out (by kernel_rfl)) (by decide) (fun K hK => ?_)
      refine goes_ Try.func52 (by kernel_rfl) rfl #[.agg #[.int .i64 t_r, .int .i64 t_p], .agg #[.int .i64 t_t, .int .i64 t_u], .agg #[.int .i64 t363, .int .i64 t364, .int .i64 t365, .int .i64 t366, .int .i64 t367, .int .i64 t368, .int .i64 t369]] (by rfl) rfl rfl (by (try simp only [List.map_toArray, List.map_cons, List.map_nil]); first | done | (go_simp; done) | rfl | (simp only [List.length_drop, List.length_take]; rfl)) ?_
      with_reducible refine (Yp.calls t_r t_p t_t t_u t363 t364 t365 t366 t367 t368 t369 t370 t371 t372 t373 t374 t375 t376 t377 t378 t379 t380 t381 t382 _ A42.out).mono ?_
      rintro e w160 ⟨rfl, hb⟩
      refine ⟨_, rfl, ?_⟩
      replace O_0 := Y0.mk (Kd.R_below (Kd.rU O_0.out) hb)
      replace O_1 := Y0.mk (Kd.R_below (Kd.rU O_1.out) hb)
      replace O_2 := Y0.mk (Kd.R_below (Kd.rU O_2.out) hb)
      replace B_0 := Y0.mk (Y3 (bU B_0.out) hb)
      replace B_1 := Y0.mk (Y3 (bU B_1.out) hb)
      replace B_2 := Y0.mk (Y3 (bU B_2.out) hb)
      replace B_3 := Y0.mk (Y3 (bU B_3.out) hb)
      replace B_4 := Y0.mk (Y3 (bU B_4.out) hb)
      replace HB := Y0.mk (Y5 (hU HB.out) hb)
      (try clear hb)
      (try clear hb2)
      (try clear hk)
      (try clear hi)
      refine hK.out _ _ ⟨(Y2 B_0.out 0).trans rfl, (Y2 B_0.out 1).trans rfl⟩ (fun hHeld => ?_)
      clear hK K
      refine nmA 135 ?_
      exact norm_ (by first | (simp only [YB, Act.put, List.setIfInBounds_toArray, List.set_cons_zero, List.set_cons_succ]; done) | (simp only [YB, Act.put, List.setIfInBounds_toArray, List.set_cons_zero, List.set_cons_succ]; rfl)) (hJ1_2_3_4_9 (g_2) _ ⟨hHeld, (Kd.rU O_0.out), (Kd.rU O_1.out), (Kd.rU O_2.out), (bU B_0.out), (bU B_1.out), (bU B_2.out), (bU B_3.out), (bU B_4.out), W_0.out, G_0.out, N_3.out, N_a.out, N_6.out, N_7.out, N_4.out, N_9.out, N_5.out, N_8.out, (hU HB.out)⟩)
    ·skip
     rintro _ w159 ⟨hS_, h0_, h1_, h2_, h3_, h4_, h5_, h6_, h7_⟩
     have n0_ : Y0 (Kd.R k30 30 w159 w.heap.size (fun k_ => some k_ ≠ (.slice Ao127 t_1.length co127 : Value).ownBlock ∧ some k_ ≠ (.slice Ao151 t_2.length co151 : Value).ownBlock) (.slice Ao65 t_0.length co65) t_0) := ⟨h0_⟩
     have n1_ : Y0 (Kd.R k30 30 w159 w.heap.size (fun k_ => some k_ ≠ (.slice Ao65 t_0.length co65 : Value).ownBlock ∧ some k_ ≠ (.slice Ao151 t_2.length co151 : Value).ownBlock) (.slice Ao127 t_1.length co127) t_1) := ⟨h1_⟩
     have n2_ : Y0 (Kd.R k30 30 w159 w.heap.size (fun k_ => some k_ ≠ (.slice Ao65 t_0.length co65 : Value).ownBlock ∧ some k_ ≠ (.slice Ao127 t_1.length co127 : Value).ownBlock) (.slice Ao151 t_2.length co151) t_2) := ⟨h2_⟩
     have n3_ : Y0 (w159.heap[g_1]? = some (.cells #[.int .i64 t_3, .slice Ao65 t_0.length co65] 24 (0, 0))) := ⟨h3_⟩
     have n4_ : Y0 (w159.heap[g_0]? = some (.cells #[.int .i64 t_5, .int .i64 t_6, .int .i64 t_7, .int .i64 t_8, .int .i64 t_a, .int .i64 t_b, .int .i64 t_c] 28 (0, 0))) := ⟨h4_⟩
     have n5_ : Y0 (w159.heap[g_3]? = some (.cells #[.int .i64 t_4, .slice Ao127 t_1.length co127] 24 (0, 0))) := ⟨h5_⟩
     have n6_ : Y0 (w159.heap[g_4]? = some (.cells #[.int .i64 t_9, .slice Ao151 t_2.length co151] 24 (0, 0))) := ⟨h6_⟩
     have n7_ : Y0 (Below w.heap.size w w159) := ⟨h7_⟩
     clear O_0
     clear O_1
     clear O_2
     clear B_0
     clear B_1
     clear B_2
     clear B_3
     clear HB
     clear h0_ h1_ h2_ h3_ h4_ h5_ h6_ h7_
     have O_0 := n0_
     have O_1 := n1_
     have O_2 := n2_
     have B_0 := n3_
     have B_1 := n4_
     have B_2 := n5_
     have B_3 := n6_
     have HB := n7_
     clear n0_ n1_ n2_ n3_ n4_ n5_ n6_ n7_
     have hHeld : w159.cell? ⟨g_1, 0, none⟩ = some (.int .i64 t_3) ∧ w159.cell? ⟨g_1, 1, none⟩ = some (.slice Ao65 t_0.length co65) := hS_
     refine norm_ (a' := ?_) ?_ ?_
     rotate_left
     ·simp only [YB, Act.put, List.setIfInBounds_toArray, List.set_cons_zero, List.set_cons_succ]
      rfl
     refine two_ (i := 5) (j := 9) (Ni := some 136) (Nj := some 14) #[true, true, true, true, true, true, false, false, false, false, false, false] #[true, true, true, true, true, false, false, false, false, true, false, false] rfl rfl rfl rfl (Y1w HT_.out (by kernel_rfl)) (by decide) (by decide) (fun K hK => ?_) (fun K hK => ?_)
     ·skip
      refine goes_ Try.func19 (by kernel_rfl) rfl #[.agg #[.int .i64 t_3, .slice Ao65 t_0.length co65], .agg #[.int .i64 t370, .int .i64 t371, .int .i64 t372, .int .i64 t373, .int .i64 t374, .bool t375, .int .i64 t376, .int .i64 t377, .int .i64 t378, .int .i64 t379, .int .i64 t380, .int .i64 t381, .int .i64 t382]] (by rfl) rfl rfl (by (try simp only [List.map_toArray, List.map_cons, List.map_nil]); first | done | (go_simp; done) | rfl | (simp only [List.length_drop, List.length_take]; rfl)) ?_
      with_reducible refine (YJ.calls t_3 _ _ t_0 t370 t371 t372 t373 t374 t375 t376 t377 t378 t379 t380 t381 t382 t_w t384 t387 _ ?side1 ?side2 A43.out).mono ?_
      (case side1 => repeat (first | exact (Kd.R_reads' O_0.out).2.2 | (with_reducible refine Kd.C_alloc ?_ _) | (with_reducible refine Kd.C_drewN ?_ _) | (with_reducible refine Kd.C_drew ?_)))
      (case side2 => exact (Kd.R_reads' O_0.out).2.1)
      rintro e w160 ⟨v_0, rfl, ho0, hb⟩
      refine ⟨_, rfl, ?_⟩
      replace O_7 := Y0.mk (Kd.R_lower (Kd.R_new' (Kd.R_new' (Kd.R_new' ho0 (Kd.R_lt (Kd.rU O_0.out))) (Kd.R_lt (Kd.rU O_1.out))) (Kd.R_lt (Kd.rU O_2.out))) (Yh (hU HB.out)))
      replace O_0 := Y0.mk (Kd.R_elder' (Kd.rU O_0.out) (Kd.R_base ho0) hb)
      replace O_1 := Y0.mk (Kd.R_elder' (Kd.rU O_1.out) (Kd.R_base ho0) hb)
      replace O_2 := Y0.mk (Kd.R_elder' (Kd.rU O_2.out) (Kd.R_base ho0) hb)
      replace B_0 := Y0.mk (Y3 (bU B_0.out) hb)
      replace B_1 := Y0.mk (Y3 (bU B_1.out) hb)
      replace B_2 := Y0.mk (Y3 (bU B_2.out) hb)
      replace B_3 := Y0.mk (Y3 (bU B_3.out) hb)
      replace HB := Y0.mk (Y5 (hU HB.out) hb)
      (try clear hb)
      (try clear hb2)
      (try clear hk)
      (try clear hi)
      (try clear ho0)
      refine hK.out _ _ ⟨(Y2 B_0.out 0).trans rfl, (Y2 B_0.out 1).trans rfl⟩ (fun hHeld => ?_)
      clear hK K
      refine nmA 136 ?_
      refine puA 6 130 (bs 12 127) ?_
      refine puA 7 137 (bs 12 255) ?_
      refine puA 8 138 (bs 12 511) ?_
      exact norm_ (by first | (simp only [YB, Act.put, List.setIfInBounds_toArray, List.set_cons_zero, List.set_cons_succ]; done) | (simp only [YB, Act.put, List.setIfInBounds_toArray, List.set_cons_zero, List.set_cons_succ]; rfl)) (hJ1_2_3_4_5 (v_0) _ ⟨hHeld, (by (with_reducible repeat (first | apply Kd.R_alloc | apply Kd.R_drewN | apply Kd.R_drew)); exact Kd.R_mono O_0.out (fun _ hk => by revert hk; simp only [and_imp]; intros; (repeat' apply And.intro) <;> assumption)), (by (with_reducible repeat (first | apply Kd.R_alloc | apply Kd.R_drewN | apply Kd.R_drew)); exact Kd.R_mono O_1.out (fun _ hk => by revert hk; simp only [and_imp]; intros; (repeat' apply And.intro) <;> assumption)), (by (with_reducible repeat (first | apply Kd.R_alloc | apply Kd.R_drewN | apply Kd.R_drew)); exact Kd.R_mono O_2.out (fun _ hk => by revert hk; simp only [and_imp]; intros; (repeat' apply And.intro) <;> assumption)), (by (with_reducible repeat (first | apply Kd.R_alloc | apply Kd.R_drewN | apply Kd.R_drew)); exact Kd.R_mono O_7.out (fun _ hk => by revert hk; simp only [and_imp]; intros; (repeat' apply And.intro) <;> assumption)), (bU B_0.out), (bU B_1.out), (bU B_2.out), (bU B_3.out), (hU HB.out)⟩)
     ·skip
      refine YY ?hg (N := 14) ?hd (cs := #[.int .i64 0, .slice none 0 0]) (t := 24) ?hr ?_; (case hd => rfl); (case hg => rfl); (case hr => first | (go_simp; done) | (go_simp; rfl))
      intro g_2 hg w160 hbox hb
      have n0_ := Y0.mk (Kd.R_below (Kd.rU O_0.out) hb)
      have n1_ := Y0.mk (Kd.R_below (Kd.rU O_1.out) hb)
      have n2_ := Y0.mk (Kd.R_below (Kd.rU O_2.out) hb)
      have n3_ := Y0.mk (Y3 (bU B_0.out) hb)
      have n4_ := Y0.mk (Y3 (bU B_1.out) hb)
      have n5_ := Y0.mk (Y3 (bU B_2.out) hb)
      have n6_ := Y0.mk (Y3 (bU B_3.out) hb)
      have n7_ := Y0.mk (Y5 (hU HB.out) hb)
      have n8_ := Y0.mk (hbox)
      have n9_ := gE hg HB
      have n10_ := gE hg HB
      have n11_ := gL hg B_0
      have n12_ := gG hg B_0
      have n13_ := gL hg B_1
      have n14_ := gG hg B_1
      have n15_ := gL hg B_2
      have n16_ := gG hg B_2
      have n17_ := gL hg B_3
      have n18_ := gG hg B_3
      clear O_0
      clear O_1
      clear O_2
      clear B_0
      clear B_1
      clear B_2
      clear B_3
      clear HB
      have O_0 := n0_
      have O_1 := n1_
      have O_2 := n2_
      have B_0 := n3_
      have B_1 := n4_
      have B_2 := n5_
      have B_3 := n6_
      have HB := n7_
      have B_4 := n8_
      have W_0 := n9_
      have G_0 := n10_
      have N_3 := n11_
      have N_a := n12_
      have N_6 := n13_
      have N_7 := n14_
      have N_4 := n15_
      have N_9 := n16_
      have N_5 := n17_
      have N_8 := n18_
      clear n0_ n1_ n2_ n3_ n4_ n5_ n6_ n7_ n8_ n9_ n10_ n11_ n12_ n13_ n14_ n15_ n16_ n17_ n18_
      clear hb hbox hg
      refine hK.out _ _ ⟨(Y2 B_0.out 0).trans rfl, (Y2 B_0.out 1).trans rfl⟩ (fun hHeld => ?_)
      clear hK K
      refine nmA 14 ?_
      exact norm_ (by first | (simp only [YB, Act.put, List.setIfInBounds_toArray, List.set_cons_zero, List.set_cons_succ]; done) | (simp only [YB, Act.put, List.setIfInBounds_toArray, List.set_cons_zero, List.set_cons_succ]; rfl)) (hJ1_2_3_4_9 (g_2) _ ⟨hHeld, (Kd.rU O_0.out), (Kd.rU O_1.out), (Kd.rU O_2.out), (bU B_0.out), (bU B_1.out), (bU B_2.out), (bU B_3.out), (bU B_4.out), W_0.out, G_0.out, N_3.out, N_a.out, N_6.out, N_7.out, N_4.out, N_9.out, N_5.out, N_8.out, (hU HB.out)⟩)
   ·skip
    rintro g_2 w160 ⟨hS_, h0_, h1_, h2_, h3_, h4_, h5_, h6_, h7_, h8_, h9_, h10_, h11_, h12_, h13_, h14_, h15_, h16_, h17_, h18_⟩
    have n0_ : Y0 (Kd.R k30 30 w160 w.heap.size (fun k_ => some k_ ≠ (.slice Ao127 t_1.length co127 : Value).ownBlock ∧ some k_ ≠ (.slice Ao151 t_2.length co151 : Value).ownBlock) (.slice Ao65 t_0.length co65) t_0) := ⟨h0_⟩
    have n1_ : Y0 (Kd.R k30 30 w160 w.heap.size (fun k_ => some k_ ≠ (.slice Ao65 t_0.length co65 : Value).ownBlock ∧ some k_ ≠ (.slice Ao151 t_2.length co151 : Value).ownBlock) (.slice Ao127 t_1.length co127) t_1) := ⟨h1_⟩
    have n2_ : Y0 (Kd.R k30 30 w160 w.heap.size (fun k_ => some k_ ≠ (.slice Ao65 t_0.length co65 : Value).ownBlock ∧ some k_ ≠ (.slice Ao127 t_1.length co127 : Value).ownBlock) (.slice Ao151 t_2.length co151) t_2) := ⟨h2_⟩
    have n3_ : Y0 (w160.heap[g_1]? = some (.cells #[.int .i64 t_3, .slice Ao65 t_0.length co65] 24 (0, 0))) := ⟨h3_⟩
    have n4_ : Y0 (w160.heap[g_0]? = some (.cells #[.int .i64 t_5, .int .i64 t_6, .int .i64 t_7, .int .i64 t_8, .int .i64 t_a, .int .i64 t_b, .int .i64 t_c] 28 (0, 0))) := ⟨h4_⟩
    have n5_ : Y0 (w160.heap[g_3]? = some (.cells #[.int .i64 t_4, .slice Ao127 t_1.length co127] 24 (0, 0))) := ⟨h5_⟩
    have n6_ : Y0 (w160.heap[g_4]? = some (.cells #[.int .i64 t_9, .slice Ao151 t_2.length co151] 24 (0, 0))) := ⟨h6_⟩
    have n7_ : Y0 (w160.heap[g_2]? = some (.cells #[.int .i64 0, .slice none 0 0] 24 (0, 0))) := ⟨h7_⟩
    have n8_ : Y0 (w.heap.size ≤ g_2) := ⟨h8_⟩
    have n9_ : Y0 (w.heap.size ≤ g_2) := ⟨h9_⟩
    have n10_ : Y0 (g_1 ≠ g_2) := ⟨h10_⟩
    have n11_ : Y0 (g_2 ≠ g_1) := ⟨h11_⟩
    have n12_ : Y0 (g_0 ≠ g_2) := ⟨h12_⟩
    have n13_ : Y0 (g_2 ≠ g_0) := ⟨h13_⟩
    have n14_ : Y0 (g_3 ≠ g_2) := ⟨h14_⟩
    have n15_ : Y0 (g_2 ≠ g_3) := ⟨h15_⟩
    have n16_ : Y0 (g_4 ≠ g_2) := ⟨h16_⟩
    have n17_ : Y0 (g_2 ≠ g_4) := ⟨h17_⟩
    have n18_ : Y0 (Below w.heap.size w w160) := ⟨h18_⟩
    clear O_0
    clear O_1
    clear O_2
    clear B_0
    clear B_1
    clear B_2
    clear B_3
    clear HB
    clear h0_ h1_ h2_ h3_ h4_ h5_ h6_ h7_ h8_ h9_ h10_ h11_ h12_ h13_ h14_ h15_ h16_ h17_ h18_
    have O_0 := n0_
    have O_1 := n1_
    have O_2 := n2_
    have B_0 := n3_
    have B_1 := n4_
    have B_2 := n5_
    have B_3 := n6_
    have B_4 := n7_
    have W_0 := n8_
    have G_0 := n9_
    have N_3 := n10_
    have N_a := n11_
    have N_6 := n12_
    have N_7 := n13_
    have N_4 := n14_
    have N_9 := n15_
    have N_5 := n16_
    have N_8 := n17_
    have HB := n18_
    clear n0_ n1_ n2_ n3_ n4_ n5_ n6_ n7_ n8_ n9_ n10_ n11_ n12_ n13_ n14_ n15_ n16_ n17_ n18_
    have hHeld : w160.cell? ⟨g_1, 0, none⟩ = some (.int .i64 t_3) ∧ w160.cell? ⟨g_1, 1, none⟩ = some (.slice Ao65 t_0.length co65) := hS_
    refine norm_ (a' := ?_) ?_ ?_
    rotate_left
    ·simp only [YB, Act.put, List.setIfInBounds_toArray, List.set_cons_zero, List.set_cons_succ]
     rfl
    refine one_ (i := 5) (N := some 136) (bs 12 575) rfl rfl (YH HT_.out (by kernel_rfl)) (by decide) (fun K hK => ?_)
    refine goes_ Try.func19 (by kernel_rfl) rfl #[.agg #[.int .i64 t_3, .slice Ao65 t_0.length co65], .agg #[.int .i64 t370, .int .i64 t371, .int .i64 t372, .int .i64 t373, .int .i64 t374, .bool t375, .int .i64 t376, .int .i64 t377, .int .i64 t378, .int .i64 t379, .int .i64 t380, .int .i64 t381, .int .i64 t382]] (by rfl) rfl rfl (by (try simp only [List.map_toArray, List.map_cons, List.map_nil]); first | done | (go_simp; done) | rfl | (simp only [List.length_drop, List.length_take]; rfl)) ?_
    with_reducible refine (YJ.calls t_3 _ _ t_0 t370 t371 t372 t373 t374 t375 t376 t377 t378 t379 t380 t381 t382 t_w t384 t387 _ ?side1 ?side2 A43.out).mono ?_
    (case side1 => repeat (first | exact (Kd.R_reads' O_0.out).2.2 | (with_reducible refine Kd.C_alloc ?_ _) | (with_reducible refine Kd.C_drewN ?_ _) | (with_reducible refine Kd.C_drew ?_)))
    (case side2 => exact (Kd.R_reads' O_0.out).2.1)
    rintro e w161 ⟨v_0, rfl, ho0, hb⟩
    refine ⟨_, rfl, ?_⟩
    replace O_7 := Y0.mk (Kd.R_lower (Kd.R_new' (Kd.R_new' (Kd.R_new' ho0 (Kd.R_lt (Kd.rU O_0.out))) (Kd.R_lt (Kd.rU O_1.out))) (Kd.R_lt (Kd.rU O_2.out))) (Yh (hU HB.out)))
    replace O_0 := Y0.mk (Kd.R_elder' (Kd.rU O_0.out) (Kd.R_base ho0) hb)
    replace O_1 := Y0.mk (Kd.R_elder' (Kd.rU O_1.out) (Kd.R_base ho0) hb)
    replace O_2 := Y0.mk (Kd.R_elder' (Kd.rU O_2.out) (Kd.R_base ho0) hb)
    replace B_0 := Y0.mk (Y3 (bU B_0.out) hb)
    replace B_1 := Y0.mk (Y3 (bU B_1.out) hb)
    replace B_2 := Y0.mk (Y3 (bU B_2.out) hb)
    replace B_3 := Y0.mk (Y3 (bU B_3.out) hb)
    replace B_4 := Y0.mk (Y3 (bU B_4.out) hb)
    replace HB := Y0.mk (Y5 (hU HB.out) hb)
    (try clear hb)
    (try clear hb2)
    (try clear hk)
    (try clear hi)
    (try clear ho0)
    refine hK.out _ _ ⟨(Y2 B_0.out 0).trans rfl, (Y2 B_0.out 1).trans rfl⟩ (fun hHeld => ?_)
    clear hK K
    refine nmA 136 ?_
    refine puA 6 130 (bs 12 639) ?_
    refine puA 7 137 (bs 12 767) ?_
    refine puA 8 138 (bs 12 1023) ?_
    exact norm_ (by first | (simp only [YB, Act.put, List.setIfInBounds_toArray, List.set_cons_zero, List.set_cons_succ]; done) | (simp only [YB, Act.put, List.setIfInBounds_toArray, List.set_cons_zero, List.set_cons_succ]; rfl)) (hJ1_2_3_4_5_9 (v_0, g_2) _ ⟨hHeld, (by (with_reducible repeat (first | apply Kd.R_alloc | apply Kd.R_drewN | apply Kd.R_drew)); exact Kd.R_mono O_0.out (fun _ hk => by revert hk; simp only [and_imp]; intros; (repeat' apply And.intro) <;> assumption)), (by (with_reducible repeat (first | apply Kd.R_alloc | apply Kd.R_drewN | apply Kd.R_drew)); exact Kd.R_mono O_1.out (fun _ hk => by revert hk; simp only [and_imp]; intros; (repeat' apply And.intro) <;> assumption)), (by (with_reducible repeat (first | apply Kd.R_alloc | apply Kd.R_drewN | apply Kd.R_drew)); exact Kd.R_mono O_2.out (fun _ hk => by revert hk; simp only [and_imp]; intros; (repeat' apply And.intro) <;> assumption)), (by (with_reducible repeat (first | apply Kd.R_alloc | apply Kd.R_drewN | apply Kd.R_drew)); exact Kd.R_mono O_7.out (fun _ hk => by revert hk; simp only [and_imp]; intros; (repeat' apply And.intro) <;> assumption)), (bU B_0.out), (bU B_1.out), (bU B_2.out), (bU B_3.out), (bU B_4.out), W_0.out, G_0.out, N_3.out, N_a.out, N_6.out, N_7.out, N_4.out, N_9.out, N_5.out, N_8.out, (hU HB.out)⟩)
  ·skip
   rintro v_0 w160 ⟨hS_, h0_, h1_, h2_, h3_, h4_, h5_, h6_, h7_, h8_⟩
   have n0_ : Y0 (Kd.R k30 30 w160 w.heap.size (fun k_ => some k_ ≠ (.slice Ao127 t_1.length co127 : Value).ownBlock ∧ some k_ ≠ (.slice Ao151 t_2.length co151 : Value).ownBlock ∧ some k_ ≠ (v_0 : Value).ownBlock) (.slice Ao65 t_0.length co65) t_0) := ⟨h0_⟩
   have n1_ : Y0 (Kd.R k30 30 w160 w.heap.size (fun k_ => some k_ ≠ (.slice Ao65 t_0.length co65 : Value).ownBlock ∧ some k_ ≠ (.slice Ao151 t_2.length co151 : Value).ownBlock ∧ some k_ ≠ (v_0 : Value).ownBlock) (.slice Ao127 t_1.length co127) t_1) := ⟨h1_⟩
   have n2_ : Y0 (Kd.R k30 30 w160 w.heap.size (fun k_ => some k_ ≠ (.slice Ao65 t_0.length co65 : Value).ownBlock ∧ some k_ ≠ (.slice Ao127 t_1.length co127 : Value).ownBlock ∧ some k_ ≠ (v_0 : Value).ownBlock) (.slice Ao151 t_2.length co151) t_2) := ⟨h2_⟩
   have n3_ : Y0 (Kd.R k30 30 w160 w.heap.size (fun k_ => some k_ ≠ (.slice Ao65 t_0.length co65 : Value).ownBlock ∧ some k_ ≠ (.slice Ao127 t_1.length co127 : Value).ownBlock ∧ some k_ ≠ (.slice Ao151 t_2.length co151 : Value).ownBlock) v_0 t384) := ⟨h3_⟩
   have n4_ : Y0 (w160.heap[g_1]? = some (.cells #[.int .i64 t_3, .slice Ao65 t_0.length co65] 24 (0, 0))) := ⟨h4_⟩
   have n5_ : Y0 (w160.heap[g_0]? = some (.cells #[.int .i64 t_5, .int .i64 t_6, .int .i64 t_7, .int .i64 t_8, .int .i64 t_a, .int .i64 t_b, .int .i64 t_c] 28 (0, 0))) := ⟨h5_⟩
   have n6_ : Y0 (w160.heap[g_3]? = some (.cells #[.int .i64 t_4, .slice Ao127 t_1.length co127] 24 (0, 0))) := ⟨h6_⟩
   have n7_ : Y0 (w160.heap[g_4]? = some (.cells #[.int .i64 t_9, .slice Ao151 t_2.length co151] 24 (0, 0))) := ⟨h7_⟩
   have n8_ : Y0 (Below w.heap.size w w160) := ⟨h8_⟩
   clear O_0
   clear O_1
   clear O_2
   clear B_0
   clear B_1
   clear B_2
   clear B_3
   clear HB
   clear h0_ h1_ h2_ h3_ h4_ h5_ h6_ h7_ h8_
   have O_0 := n0_
   have O_1 := n1_
   have O_2 := n2_
   have O_7 := n3_
   have B_0 := n4_
   have B_1 := n5_
   have B_2 := n6_
   have B_3 := n7_
   have HB := n8_
   clear n0_ n1_ n2_ n3_ n4_ n5_ n6_ n7_ n8_
   have hHeld : w160.cell? ⟨g_1, 0, none⟩ = some (.int .i64 t_3) ∧ w160.cell? ⟨g_1, 1, none⟩ = some (.slice Ao65 t_0.length co65) := hS_
   refine norm_ (a' := ?_) ?_ ?_
   rotate_left
   ·simp only [YB, Act.put, List.setIfInBounds_toArray, List.set_cons_zero, List.set_cons_succ]
    rfl
   refine one_ (i := 9) (N := some 14) (bs 12 1023) rfl rfl (YH HT_.out (by kernel_rfl)) (by decide) (fun K hK => ?_)
   refine YY ?hg (N := 14) ?hd (cs := #[.int .i64 0, .slice none 0 0]) (t := 24) ?hr ?_; (case hd => rfl); (case hg => rfl); (case hr => first | (go_simp; done) | (go_simp; rfl))
   intro g_2 hg w161 hbox hb
   have n0_ := Y0.mk (Kd.R_below (Kd.rU O_0.out) hb)
   have n1_ := Y0.mk (Kd.R_below (Kd.rU O_1.out) hb)
   have n2_ := Y0.mk (Kd.R_below (Kd.rU O_2.out) hb)
   have n3_ := Y0.mk (Kd.R_below (Kd.rU O_7.out) hb)
   have n4_ := Y0.mk (Y3 (bU B_0.out) hb)
   have n5_ := Y0.mk (Y3 (bU B_1.out) hb)
   have n6_ := Y0.mk (Y3 (bU B_2.out) hb)
   have n7_ := Y0.mk (Y3 (bU B_3.out) hb)
   have n8_ := Y0.mk (Y5 (hU HB.out) hb)
   have n9_ := Y0.mk (hbox)
   have n10_ := gE hg HB
   have n11_ := gE hg HB
   have n12_ := gL hg B_0
   have n13_ := gG hg B_0
   have n14_ := gL hg B_1
   have n15_ := gG hg B_1
   have n16_ := gL hg B_2
   have n17_ := gG hg B_2
   have n18_ := gL hg B_3
   have n19_ := gG hg B_3
   clear O_0
   clear O_1
   clear O_2
   clear O_7
   clear B_0
   clear B_1
   clear B_2
   clear B_3
   clear HB
   have O_0 := n0_
   have O_1 := n1_
   have O_2 := n2_
   have O_7 := n3_
   have B_0 := n4_
   have B_1 := n5_
   have B_2 := n6_
   have B_3 := n7_
   have HB := n8_
   have B_4 := n9_
   have W_0 := n10_
   have G_0 := n11_
   have N_3 := n12_
   have N_a := n13_
   have N_6 := n14_
   have N_7 := n15_
   have N_4 := n16_
   have N_9 := n17_
   have N_5 := n18_
   have N_8 := n19_
   clear n0_ n1_ n2_ n3_ n4_ n5_ n6_ n7_ n8_ n9_ n10_ n11_ n12_ n13_ n14_ n15_ n16_ n17_ n18_ n19_
   clear hb hbox hg
   refine hK.out _ _ ⟨(Y2 B_0.out 0).trans rfl, (Y2 B_0.out 1).trans rfl⟩ (fun hHeld => ?_)
   clear hK K
   refine nmA 14 ?_
   exact norm_ (by first | (simp only [YB, Act.put, List.setIfInBounds_toArray, List.set_cons_zero, List.set_cons_succ]; done) | (simp only [YB, Act.put, List.setIfInBounds_toArray, List.set_cons_zero, List.set_cons_succ]; rfl)) (hJ1_2_3_4_5_9 (v_0, g_2) _ ⟨hHeld, (Kd.rU O_0.out), (Kd.rU O_1.out), (Kd.rU O_2.out), (Kd.rU O_7.out), (bU B_0.out), (bU B_1.out), (bU B_2.out), (bU B_3.out), (bU B_4.out), W_0.out, G_0.out, N_3.out, N_a.out, N_6.out, N_7.out, N_4.out, N_9.out, N_5.out, N_8.out, (hU HB.out)⟩)
 rintro ⟨v_0, g_2⟩ w161 ⟨hS_, h0_, h1_, h2_, h3_, h4_, h5_, h6_, h7_, h8_, h9_, h10_, h11_, h12_, h13_, h14_, h15_, h16_, h17_, h18_, h19_⟩
 have n0_ : Y0 (Kd.R k30 30 w161 w.heap.size (fun k_ => some k_ ≠ (.slice Ao127 t_1.length co127 : Value).ownBlock ∧ some k_ ≠ (.slice Ao151 t_2.length co151 : Value).ownBlock ∧ some k_ ≠ (v_0 : Value).ownBlock) (.slice Ao65 t_0.length co65) t_0) := ⟨h0_⟩
 have n1_ : Y0 (Kd.R k30 30 w161 w.heap.size (fun k_ => some k_ ≠ (.slice Ao65 t_0.length co65 : Value).ownBlock ∧ some k_ ≠ (.slice Ao151 t_2.length co151 : Value).ownBlock ∧ some k_ ≠ (v_0 : Value).ownBlock) (.slice Ao127 t_1.length co127) t_1) := ⟨h1_⟩
 have n2_ : Y0 (Kd.R k30 30 w161 w.heap.size (fun k_ => some k_ ≠ (.slice Ao65 t_0.length co65 : Value).ownBlock ∧ some k_ ≠ (.slice Ao127 t_1.length co127 : Value).ownBlock ∧ some k_ ≠ (v_0 : Value).ownBlock) (.slice Ao151 t_2.length co151) t_2) := ⟨h2_⟩
 have n3_ : Y0 (Kd.R k30 30 w161 w.heap.size (fun k_ => some k_ ≠ (.slice Ao65 t_0.length co65 : Value).ownBlock ∧ some k_ ≠ (.slice Ao127 t_1.length co127 : Value).ownBlock ∧ some k_ ≠ (.slice Ao151 t_2.length co151 : Value).ownBlock) v_0 t384) := ⟨h3_⟩
 have n4_ : Y0 (w161.heap[g_1]? = some (.cells #[.int .i64 t_3, .slice Ao65 t_0.length co65] 24 (0, 0))) := ⟨h4_⟩
 have n5_ : Y0 (w161.heap[g_0]? = some (.cells #[.int .i64 t_5, .int .i64 t_6, .int .i64 t_7, .int .i64 t_8, .int .i64 t_a, .int .i64 t_b, .int .i64 t_c] 28 (0, 0))) := ⟨h5_⟩
 have n6_ : Y0 (w161.heap[g_3]? = some (.cells #[.int .i64 t_4, .slice Ao127 t_1.length co127] 24 (0, 0))) := ⟨h6_⟩
 have n7_ : Y0 (w161.heap[g_4]? = some (.cells #[.int .i64 t_9, .slice Ao151 t_2.length co151] 24 (0, 0))) := ⟨h7_⟩
 have n8_ : Y0 (w161.heap[g_2]? = some (.cells #[.int .i64 0, .slice none 0 0] 24 (0, 0))) := ⟨h8_⟩
 have n9_ : Y0 (w.heap.size ≤ g_2) := ⟨h9_⟩
 have n10_ : Y0 (w.heap.size ≤ g_2) := ⟨h10_⟩
 have n11_ : Y0 (g_1 ≠ g_2) := ⟨h11_⟩
 have n12_ : Y0 (g_2 ≠ g_1) := ⟨h12_⟩
 have n13_ : Y0 (g_0 ≠ g_2) := ⟨h13_⟩
 have n14_ : Y0 (g_2 ≠ g_0) := ⟨h14_⟩
 have n15_ : Y0 (g_3 ≠ g_2) := ⟨h15_⟩
 have n16_ : Y0 (g_2 ≠ g_3) := ⟨h16_⟩
 have n17_ : Y0 (g_4 ≠ g_2) := ⟨h17_⟩
 have n18_ : Y0 (g_2 ≠ g_4) := ⟨h18_⟩
 have n19_ : Y0 (Below w.heap.size w w161) := ⟨h19_⟩
 clear O_0
 clear O_1
 clear O_2
 clear B_0
 clear B_1
 clear B_2
 clear B_3
 clear HB
 clear h0_ h1_ h2_ h3_ h4_ h5_ h6_ h7_ h8_ h9_ h10_ h11_ h12_ h13_ h14_ h15_ h16_ h17_ h18_ h19_
 have O_0 := n0_
 have O_1 := n1_
 have O_2 := n2_
 have O_7 := n3_
 have B_0 := n4_
 have B_1 := n5_
 have B_2 := n6_
 have B_3 := n7_
 have B_4 := n8_
 have W_0 := n9_
 have G_0 := n10_
 have N_3 := n11_
 have N_a := n12_
 have N_6 := n13_
 have N_7 := n14_
 have N_4 := n15_
 have N_9 := n16_
 have N_5 := n17_
 have N_8 := n18_
 have HB := n19_
 clear n0_ n1_ n2_ n3_ n4_ n5_ n6_ n7_ n8_ n9_ n10_ n11_ n12_ n13_ n14_ n15_ n16_ n17_ n18_ n19_
 have hHeld : w161.cell? ⟨g_1, 0, none⟩ = some (.int .i64 t_3) ∧ w161.cell? ⟨g_1, 1, none⟩ = some (.slice Ao65 t_0.length co65) := hS_
 obtain ⟨Ao163, co163, eo163⟩ := Kd.R_slice O_7.out
 (first | subst eo163 | (injection eo163 with f1_ f2_ f3_; have f4_ := f1_.symm; have f5_ := f3_.symm; clear f1_ f2_ f3_; subst f4_; subst f5_))
 refine norm_ (a' := ?_) ?_ ?_
 rotate_left
 ·simp only [YB, Act.put, List.setIfInBounds_toArray, List.set_cons_zero, List.set_cons_succ]
  rfl
 refine one_ (i := 10) (N := none) #[true, true, true, true, true, true, true, true, true, true, true, false] rfl rfl (YH HT_.out (by kernel_rfl)) (by decide) (fun K hK => ?_)
 have hs162 : w161.cell? ⟨g_2, 0, none⟩ = some (.int .i64 0) := (Y2 B_4.out 0).trans rfl
 have hfs162 := Y4 B_4.out 0
 have hns162_0 := N_3.out
 have hns162_1 := N_6.out
 have hns162_2 := N_4.out
 have hns162_3 := N_5.out
 have hms162_0 := N_a.out
 have hms162_1 := N_7.out
 have hms162_2 := N_9.out
 have hms162_3 := N_8.out
 have hs164 : w161.cell? ⟨g_2, 1, none⟩ = some (.slice none 0 0) := (Y2 B_4.out 1).trans rfl
 have hfs164 := Y4 B_4.out 1
 have hns164_0 := N_3.out
 have hns164_1 := N_6.out
 have hns164_2 := N_4.out
 have hns164_3 := N_5.out
 have hms164_0 := N_a.out
 have hms164_1 := N_7.out
 have hms164_2 := N_9.out
 have hms164_3 := N_8.out
 refine skip_ (w1 := ?_) (by rfl) rfl ?_ ?_
 rotate_left
 ·go_simp
  rfl
 refine hK.out _ _ ⟨(cf2 (g := g_2) N_3.out (hHeld.1)), (cf2 (g := g_2) N_3.out (hHeld.2))⟩ (fun hHeld => ?_)
 clear hK K
 refine puA 11 15 (bs 12 4095) ?_
 refine done_ (Y17 HT_.out (by kernel_rfl)) ?_
 try go_wp2_with (first | ((with_reducible refine Ye (N := 139) rfl ?_); (with_reducible refine Yd (f := 51) rfl ?_); refine YG (some 139) rfl rfl Try.func51 (by kernel_rfl) rfl #[.int .i64 1, .int .i64 1] rfl (by (try simp only [List.map_toArray, List.map_cons, List.map_nil]); first | done | (go_simp; done) | rfl | (simp only [List.length_drop, List.length_take]; rfl)) ?_; (with_reducible refine (Yb.calls 1 1 t389 t390 _ A44.out).mono ?_); rintro e w165 ⟨rfl, hb⟩; refine ⟨_, rfl, ?_⟩; replace O_0 := Y0.mk (Kd.R_below (by (with_reducible repeat (first | apply Kd.R_alloc | apply Kd.R_drewN | apply Kd.R_drew)); exact (Kd.R_mono (rf2 (g := g_2) (Kd.R_types O_0.out B_4.out (by decide)) (fun _ hk => hk.2)) (fun _ h_ => h_.1))) hb); replace O_1 := Y0.mk (Kd.R_below (by (with_reducible repeat (first | apply Kd.R_alloc | apply Kd.R_drewN | apply Kd.R_drew)); exact (Kd.R_mono (rf2 (g := g_2) (Kd.R_types O_1.out B_4.out (by decide)) (fun _ hk => hk.2)) (fun _ h_ => h_.1))) hb); replace O_2 := Y0.mk (Kd.R_below (by (with_reducible repeat (first | apply Kd.R_alloc | apply Kd.R_drewN | apply Kd.R_drew)); exact (Kd.R_mono (rf2 (g := g_2) (Kd.R_types O_2.out B_4.out (by decide)) (fun _ hk => hk.2)) (fun _ h_ => h_.1))) hb); replace O_7 := Y0.mk (Kd.R_below (by (with_reducible repeat (first | apply Kd.R_alloc | apply Kd.R_drewN | apply Kd.R_drew)); exact (Kd.R_mono (rf2 (g := g_2) (Kd.R_types O_7.out B_4.out (by decide)) (fun _ hk => hk.2)) (fun _ h_ => h_.1))) hb); replace B_0 := Y0.mk (Y3 (g := g_1) (o := .cells #[.int .i64 t_3, .slice Ao65 t_0.length co65] 24 (0, 0)) (by (with_reducible repeat (first | refine Y8 ?_ _ | refine Y7 ?_ | refine Y6 ?_ _)); refine (Below.heap_setCell _ ⟨_, _, none⟩ _ _ N_3.out).trans ?_; (with_reducible repeat (first | refine Y8 ?_ _ | refine Y7 ?_ | refine Y6 ?_ _)); refine (Below.heap_setCell _ ⟨_, _, none⟩ _ _ N_3.out).trans ?_; (with_reducible repeat (first | refine Y8 ?_ _ | refine Y7 ?_ | refine Y6 ?_ _)); exact B_0.out) hb); replace B_1 := Y0.mk (Y3 (g := g_0) (o := .cells #[.int .i64 t_5, .int .i64 t_6, .int .i64 t_7, .int .i64 t_8, .int .i64 t_a, .int .i64 t_b, .int .i64 t_c] 28 (0, 0)) (by (with_reducible repeat (first | refine Y8 ?_ _ | refine Y7 ?_ | refine Y6 ?_ _)); refine (Below.heap_setCell _ ⟨_, _, none⟩ _ _ N_6.out).trans ?_; (with_reducible repeat (first | refine Y8 ?_ _ | refine Y7 ?_ | refine Y6 ?_ _)); refine (Below.heap_setCell _ ⟨_, _, none⟩ _ _ N_6.out).trans ?_; (with_reducible repeat (first | refine Y8 ?_ _ | refine Y7 ?_ | refine Y6 ?_ _)); exact B_1.out) hb); replace B_2 := Y0.mk (Y3 (g := g_3) (o := .cells #[.int .i64 t_4, .slice Ao127 t_1.length co127] 24 (0, 0)) (by (with_reducible repeat (first | refine Y8 ?_ _ | refine Y7 ?_ | refine Y6 ?_ _)); refine (Below.heap_setCell _ ⟨_, _, none⟩ _ _ N_4.out).trans ?_; (with_reducible repeat (first | refine Y8 ?_ _ | refine Y7 ?_ | refine Y6 ?_ _)); refine (Below.heap_setCell _ ⟨_, _, none⟩ _ _ N_4.out).trans ?_; (with_reducible repeat (first | refine Y8 ?_ _ | refine Y7 ?_ | refine Y6 ?_ _)); exact B_2.out) hb); replace B_3 := Y0.mk (Y3 (g := g_4) (o := .cells #[.int .i64 t_9, .slice Ao151 t_2.length co151] 24 (0, 0)) (by (with_reducible repeat (first | refine Y8 ?_ _ | refine Y7 ?_ | refine Y6 ?_ _)); refine (Below.heap_setCell _ ⟨_, _, none⟩ _ _ N_5.out).trans ?_; (with_reducible repeat (first | refine Y8 ?_ _ | refine Y7 ?_ | refine Y6 ?_ _)); refine (Below.heap_setCell _ ⟨_, _, none⟩ _ _ N_5.out).trans ?_; (with_reducible repeat (first | refine Y8 ?_ _ | refine Y7 ?_ | refine Y6 ?_ _)); exact B_3.out) hb); replace B_4 := Y0.mk (Y3 (g := g_2) (o := .cells #[.int .i64 t_w, .slice Ao163 t384.length co163] 24 (0, 0)) (by (with_reducible repeat (first | refine Y8 ?_ _ | refine Y7 ?_ | refine Y6 ?_ _)); refine Yn (cs := #[.int .i64 t_w, .slice none 0 0]) ?_ 1 _ rfl; (with_reducible repeat (first | refine Y8 ?_ _ | refine Y7 ?_ | refine Y6 ?_ _)); refine Yn (cs := #[.int .i64 0, .slice none 0 0]) ?_ 0 _ rfl; (with_reducible repeat (first | refine Y8 ?_ _ | refine Y7 ?_ | refine Y6 ?_ _)); exact B_4.out) hb); replace HB := Y0.mk (Y5 (hU HB.out) hb); (try clear hb); (try clear hb2); (try clear hk); (try clear hi)) | ((with_reducible refine Ye (N := 140) rfl ?_); (with_reducible refine Yd (f := 51) rfl ?_); refine YG (some 140) rfl rfl Try.func51 (by kernel_rfl) rfl #[.int .i64 1, .int .i64 1] rfl (by (try simp only [List.map_toArray, List.map_cons, List.map_nil]); first | done | (go_simp; done) | rfl | (simp only [List.length_drop, List.length_take]; rfl)) ?_; (with_reducible refine (Yb.calls 1 1 t391 t392 _ A45.out).mono ?_); rintro e w166 ⟨rfl, hb⟩; refine ⟨_, rfl, ?_⟩; replace B_1 := Y0.mk (Y3 (bU B_1.out) hb); replace HB := Y0.mk (Y5 (hU HB.out) hb); (try clear hb); (try clear hb2); (try clear hk); (try clear hi)) | ((with_reducible refine Ye (N := 141) rfl ?_); (with_reducible refine Yd (f := 49) rfl ?_); refine YG (some 141) rfl rfl Try.func49 (by kernel_rfl) rfl #[] rfl (by (try simp only [List.map_toArray, List.map_cons, List.map_nil]); first | done | (go_simp; done) | rfl | (simp only [List.length_drop, List.length_take]; rfl)) ?_; (with_reducible refine (Yw.calls  t393 t394 t395 t396 t397 t398 t399 _ A46.out).mono ?_); rintro e w167 ⟨rfl, hb⟩; refine ⟨_, rfl, ?_⟩; replace B_1 := Y0.mk (Y3 (bU B_1.out) hb); replace HB := Y0.mk (Y5 (hU HB.out) hb); (try clear hb); (try clear hb2); (try clear hk); (try clear hi)) | ((with_reducible refine Ye (N := 142) rfl ?_); (with_reducible refine Yd (f := 52) rfl ?_); refine YG (some 142) rfl rfl Try.func52 (by kernel_rfl) rfl #[.agg #[.int .i64 t389, .int .i64 t390], .agg #[.int .i64 t391, .int .i64 t392], .agg #[.int .i64 t393, .int .i64 t394, .int .i64 t395, .int .i64 t396, .int .i64 t397, .int .i64 t398, .int .i64 t399]] rfl (by (try simp only [List.map_toArray, List.map_cons, List.map_nil]); first | done | (go_simp; done) | rfl | (simp only [List.length_drop, List.length_take]; rfl)) ?_; (with_reducible refine (Yp.calls t389 t390 t391 t392 t393 t394 t395 t396 t397 t398 t399 t400 t401 t402 t403 t404 t405 t406 t407 t408 t409 t410 t411 t412 _ A47.out).mono ?_); rintro e w168 ⟨rfl, hb⟩; refine ⟨_, rfl, ?_⟩; replace B_1 := Y0.mk (Y3 (bU B_1.out) hb); replace HB := Y0.mk (Y5 (hU HB.out) hb); (try clear hb); (try clear hb2); (try clear hk); (try clear hi)) | ((with_reducible refine Ye (N := 143) rfl ?_); (with_reducible refine Yd (f := 51) rfl ?_); refine YG (some 143) rfl rfl Try.func51 (by kernel_rfl) rfl #[.int .i64 2, .int .i64 1] rfl (by (try simp only [List.map_toArray, List.map_cons, List.map_nil]); first | done | (go_simp; done) | rfl | (simp only [List.length_drop, List.length_take]; rfl)) ?_; (with_reducible refine (Yb.calls 2 1 t413 t414 _ A48.out).mono ?_); rintro e w169 ⟨rfl, hb⟩; refine ⟨_, rfl, ?_⟩; replace B_1 := Y0.mk (Y3 (bU B_1.out) hb); replace HB := Y0.mk (Y5 (hU HB.out) hb); (try clear hb); (try clear hb2); (try clear hk); (try clear hi)) | ((with_reducible refine Ye (N := 144) rfl ?_); (with_reducible refine Yd (f := 51) rfl ?_); refine YG (some 144) rfl rfl Try.func51 (by kernel_rfl) rfl #[.int .i64 1, .int .i64 1] rfl (by (try simp only [List.map_toArray, List.map_cons, List.map_nil]); first | done | (go_simp; done) | rfl | (simp only [List.length_drop, List.length_take]; rfl)) ?_; (with_reducible refine (Yb.calls 1 1 t415 t416 _ A49.out).mono ?_); rintro e w170 ⟨rfl, hb⟩; refine ⟨_, rfl, ?_⟩; replace B_1 := Y0.mk (Y3 (bU B_1.out) hb); replace HB := Y0.mk (Y5 (hU HB.out) hb); (try clear hb); (try clear hb2); (try clear hk); (try clear hi)) | ((with_reducible refine Ye (N := 145) rfl ?_); (with_reducible refine Yd (f := 53) rfl ?_); refine YG (some 145) rfl rfl Try.func53 (by kernel_rfl) rfl #[] rfl (by (try simp only [List.map_toArray, List.map_cons, List.map_nil]); first | done | (go_simp; done) | rfl | (simp only [List.length_drop, List.length_take]; rfl)) ?_; (with_reducible refine (YQ.calls  t417 t418 t419 t420 t421 t422 t423 _ A50.out).mono ?_); rintro e w171 ⟨rfl, hb⟩; refine ⟨_, rfl, ?_⟩; replace B_1 := Y0.mk (Y3 (bU B_1.out) hb); replace HB := Y0.mk (Y5 (hU HB.out) hb); (try clear hb); (try clear hb2); (try clear hk); (try clear hi)) | ((with_reducible refine Ye (N := 146) rfl ?_); (with_reducible refine Yd (f := 52) rfl ?_); refine YG (some 146) rfl rfl Try.func52 (by kernel_rfl) rfl #[.agg #[.int .i64 t413, .int .i64 t414], .agg #[.int .i64 t415, .int .i64 t416], .agg #[.int .i64 t417, .int .i64 t418, .int .i64 t419, .int .i64 t420, .int .i64 t421, .int .i64 t422, .int .i64 t423]] rfl (by (try simp only [List.map_toArray, List.map_cons, List.map_nil]); first | done | (go_simp; done) | rfl | (simp only [List.length_drop, List.length_take]; rfl)) ?_; (with_reducible refine (Yp.calls t413 t414 t415 t416 t417 t418 t419 t420 t421 t422 t423 t424 t425 t426 t427 t428 t429 t430 t431 t432 t433 t434 t435 t436 _ A51.out).mono ?_); rintro e w172 ⟨rfl, hb⟩; refine ⟨_, rfl, ?_⟩; replace B_1 := Y0.mk (Y3 (bU B_1.out) hb); replace HB := Y0.mk (Y5 (hU HB.out) hb); (try clear hb); (try clear hb2); (try clear hk); (try clear hi)) | ((with_reducible refine Ye (N := 147) rfl ?_); (with_reducible refine Yd (f := 51) rfl ?_); refine YG (some 147) rfl rfl Try.func51 (by kernel_rfl) rfl #[.int .i64 3, .int .i64 1] rfl (by (try simp only [List.map_toArray, List.map_cons, List.map_nil]); first | done | (go_simp; done) | rfl | (simp only [List.length_drop, List.length_take]; rfl)) ?_; (with_reducible refine (Yb.calls 3 1 t437 t438 _ A52.out).mono ?_); rintro e w173 ⟨rfl, hb⟩; refine ⟨_, rfl, ?_⟩; replace B_1 := Y0.mk (Y3 (bU B_1.out) hb); replace HB := Y0.mk (Y5 (hU HB.out) hb); (try clear hb); (try clear hb2); (try clear hk); (try clear hi)) | ((with_reducible refine Ye (N := 148) rfl ?_); (with_reducible refine Yd (f := 51) rfl ?_); refine YG (some 148) rfl rfl Try.func51 (by kernel_rfl) rfl #[.int .i64 2, .int .i64 1] rfl (by (try simp only [List.map_toArray, List.map_cons, List.map_nil]); first | done | (go_simp; done) | rfl | (simp only [List.length_drop, List.length_take]; rfl)) ?_; (with_reducible refine (Yb.calls 2 1 t439 t440 _ A53.out).mono ?_); rintro e w174 ⟨rfl, hb⟩; refine ⟨_, rfl, ?_⟩; replace B_1 := Y0.mk (Y3 (bU B_1.out) hb); replace HB := Y0.mk (Y5 (hU HB.out) hb); (try clear hb); (try clear hb2); (try clear hk); (try clear hi)) | ((with_reducible refine Ye (N := 149) rfl ?_); (with_reducible refine Yd (f := 50) rfl ?_); refine YG (some 149) rfl rfl Try.func50 (by kernel_rfl) rfl #[] rfl (by (try simp only [List.map_toArray, List.map_cons, List.map_nil]); first | done | (go_simp; done) | rfl | (simp only [List.length_drop, List.length_take]; rfl)) ?_; (with_reducible refine (YA.calls  t441 t442 t443 t444 t445 t446 t447 _ A54.out).mono ?_); rintro e w175 ⟨rfl, hb⟩; refine ⟨_, rfl, ?_⟩; replace B_1 := Y0.mk (Y3 (bU B_1.out) hb); replace HB := Y0.mk (Y5 (hU HB.out) hb); (try clear hb); (try clear hb2); (try clear hk); (try clear hi)) | ((with_reducible refine Ye (N := 150) rfl ?_); (with_reducible refine Yd (f := 52) rfl ?_); refine YG (some 150) rfl rfl Try.func52 (by kernel_rfl) rfl #[.agg #[.int .i64 t437, .int .i64 t438], .agg #[.int .i64 t439, .int .i64 t440], .agg #[.int .i64 t441, .int .i64 t442, .int .i64 t443, .int .i64 t444, .int .i64 t445, .int .i64 t446, .int .i64 t447]] rfl (by (try simp only [List.map_toArray, List.map_cons, List.map_nil]); first | done | (go_simp; done) | rfl | (simp only [List.length_drop, List.length_take]; rfl)) ?_; (with_reducible refine (Yp.calls t437 t438 t439 t440 t441 t442 t443 t444 t445 t446 t447 t448 t449 t450 t451 t452 t453 t454 t455 t456 t457 t458 t459 t460 _ A55.out).mono ?_); rintro e w176 ⟨rfl, hb⟩; refine ⟨_, rfl, ?_⟩; replace B_1 := Y0.mk (Y3 (bU B_1.out) hb); replace HB := Y0.mk (Y5 (hU HB.out) hb); (try clear hb); (try clear hb2); (try clear hk); (try clear hi)) | ((with_reducible refine Ye (N := 151) rfl ?_); (try (refine YD (by rfl) ?_; dsimp only)); refine Kd.R_lit k30 _ 30 ?hg (N := 151) ?hd (xs := ([(⟨(⟨t400, t401⟩ : S26), t402, (⟨t403, t404⟩ : S26), t405, (⟨t406, t407, t408, t409, t410, t411, t412⟩ : S28)⟩ : S30), (⟨(⟨t424, t425⟩ : S26), t426, (⟨t427, t428⟩ : S26), t429, (⟨t430, t431, t432, t433, t434, t435, t436⟩ : S28)⟩ : S30), (⟨(⟨t448, t449⟩ : S26), t450, (⟨t451, t452⟩ : S26), t453, (⟨t454, t455, t456, t457, t458, t459, t460⟩ : S28)⟩ : S30)] : List (S30))) (inner := [.int .i64 t400, .int .i64 t401, .int .i64 t402, .int .i64 t403, .int .i64 t404, .bool t405, .int .i64 t406, .int .i64 t407, .int .i64 t408, .int .i64 t409, .int .i64 t410, .int .i64 t411, .int .i64 t412, .int .i64 t424, .int .i64 t425, .int .i64 t426, .int .i64 t427, .int .i64 t428, .bool t429, .int .i64 t430, .int .i64 t431, .int .i64 t432, .int .i64 t433, .int .i64 t434, .int .i64 t435, .int .i64 t436, .int .i64 t448, .int .i64 t449, .int .i64 t450, .int .i64 t451, .int .i64 t452, .bool t453, .int .i64 t454, .int .i64 t455, .int .i64 t456, .int .i64 t457, .int .i64 t458, .int .i64 t459, .int .i64 t460]) (ok := fun _ => True) (okp := fun _ => True) ?hr ?hp (fun _ hk => hk) trivial (Below.refl _ _) (Nat.le_refl _) (by simp) ?_; (case hd => rfl); (case hg => rfl); (case hr => first | (go_simp; done) | (go_simp; rfl)); (case hp => exact (Reps.front (show Kd.M k30 _ _ _ (⟨(⟨t400, t401⟩ : S26), t402, (⟨t403, t404⟩ : S26), t405, (⟨t406, t407, t408, t409, t410, t411, t412⟩ : S28)⟩ : S30) [.int .i64 t400, .int .i64 t401, .int .i64 t402, .int .i64 t403, .int .i64 t404, .bool t405, .int .i64 t406, .int .i64 t407, .int .i64 t408, .int .i64 t409, .int .i64 t410, .int .i64 t411, .int .i64 t412] from (Y1h _ _ _ (⟨(⟨t400, t401⟩ : S26), t402, (⟨t403, t404⟩ : S26), t405, (⟨t406, t407, t408, t409, t410, t411, t412⟩ : S28)⟩ : S30) )) rfl (Reps.front (show Kd.M k30 _ _ _ (⟨(⟨t424, t425⟩ : S26), t426, (⟨t427, t428⟩ : S26), t429, (⟨t430, t431, t432, t433, t434, t435, t436⟩ : S28)⟩ : S30) [.int .i64 t424, .int .i64 t425, .int .i64 t426, .int .i64 t427, .int .i64 t428, .bool t429, .int .i64 t430, .int .i64 t431, .int .i64 t432, .int .i64 t433, .int .i64 t434, .int .i64 t435, .int .i64 t436] from (Y1h _ _ _ (⟨(⟨t424, t425⟩ : S26), t426, (⟨t427, t428⟩ : S26), t429, (⟨t430, t431, t432, t433, t434, t435, t436⟩ : S28)⟩ : S30) )) rfl (Reps.front (show Kd.M k30 _ _ _ (⟨(⟨t448, t449⟩ : S26), t450, (⟨t451, t452⟩ : S26), t453, (⟨t454, t455, t456, t457, t458, t459, t460⟩ : S28)⟩ : S30) [.int .i64 t448, .int .i64 t449, .int .i64 t450, .int .i64 t451, .int .i64 t452, .bool t453, .int .i64 t454, .int .i64 t455, .int .i64 t456, .int .i64 t457, .int .i64 t458, .int .i64 t459, .int .i64 t460] from (Y1h _ _ _ (⟨(⟨t448, t449⟩ : S26), t450, (⟨t451, t452⟩ : S26), t453, (⟨t454, t455, t456, t457, t458, t459, t460⟩ : S28)⟩ : S30) )) rfl (Reps.none _ _) rfl) rfl) rfl)); intro v_9 w177 ho178 hb hg_ hnew_; clear hg_ hnew_; (first | rw [← Ny461.out] at ho178 | (simp only [Int.reduceToNat] at ho178; rw [← Ny461.out] at ho178)); have n0_ := Y0.mk (Kd.R_lower ho178 (Yh (hU HB.out))); have n1_ := Y0.mk (Y3 (bU B_1.out) hb); have n2_ := Y0.mk (Y5 (hU HB.out) hb); clear B_1; clear HB; have O_8 := n0_; have B_1 := n1_; have HB := n2_; clear n0_ n1_ n2_; clear hb ho178; obtain ⟨Ao179, co179, eo179⟩ := Kd.R_slice O_8.out; subst eo179) | ((with_reducible refine Ye (N := 16) rfl ?_); (try (refine YD (by rfl) ?_; dsimp only)); refine Yf ?hg (N := 16) ?hd (cs := #[.int .i64 0, .slice none 0 0]) (t := 24) ?hr ?_; (case hd => rfl); (case hg => rfl); (case hr => first | (go_simp; done) | (go_simp; rfl)); intro g_7 hg w180 hbox hb; have n0_ := Y0.mk (Kd.R_below (Kd.rU O_8.out) hb); have n1_ := Y0.mk (Y3 (bU B_1.out) hb); have n2_ := Y0.mk (Y5 (hU HB.out) hb); have n3_ := Y0.mk (hbox); have n4_ := gE hg HB; have n5_ := gE hg HB; have n6_ := gL hg B_1; have n7_ := gG hg B_1; clear O_8; clear B_1; clear HB; have O_8 := n0_; have B_1 := n1_; have HB := n2_; have B_7 := n3_; have W_7 := n4_; have G_7 := n5_; have N_p := n6_; have N_q := n7_; clear n0_ n1_ n2_ n3_ n4_ n5_ n6_ n7_; clear hb hbox hg; have hnb181 := N_q.out; have hnc181 := N_p.out; have z_2 := Y2 B_7.out; have f_1 := Y4 B_7.out; have z_4 := Y2 B_1.out; have f_3 := Y4 B_1.out) | (go_at_call 29; (with_reducible refine (Ym.calls 1 _ _ y461 t_o _ ?side1 ?side2 A61.out).mono ?_); (case side1 => refine (Kd.R_reads' (e := 30) (base := w.heap.size) (ok := fun k_ => True) (n := y461.length) (c := co179) ?_).2.2; exact (by (with_reducible repeat (first | apply Kd.R_alloc | apply Kd.R_drewN | apply Kd.R_drew)); exact (Kd.R_mono (rf2 (g := g_7) (Kd.R_types O_8.out B_7.out (by decide)) (fun _ hk => hk.2)) (fun _ h_ => h_.1)))); (case side2 => exact (Kd.R_reads' O_8.out).2.1); rintro e w184 ⟨rfl, hb⟩; replace O_8 := Y0.mk (Kd.R_below (by (with_reducible repeat (first | apply Kd.R_alloc | apply Kd.R_drewN | apply Kd.R_drew)); exact (Kd.R_mono (rf2 (g := g_7) (Kd.R_types O_8.out B_7.out (by decide)) (fun _ hk => hk.2)) (fun _ h_ => h_.1))) hb); replace B_1 := Y0.mk (Y3 (g := g_0) (o := .cells #[.int .i64 t_5, .int .i64 t_6, .int .i64 t_7, .int .i64 t_8, .int .i64 t_a, .int .i64 t_b, .int .i64 t_c] 28 (0, 0)) (by (with_reducible repeat (first | refine Y8 ?_ _ | refine Y7 ?_ | refine Y6 ?_ _)); refine (Below.heap_setCell _ ⟨_, _, none⟩ _ _ N_p.out).trans ?_; (with_reducible repeat (first | refine Y8 ?_ _ | refine Y7 ?_ | refine Y6 ?_ _)); refine (Below.heap_setCell _ ⟨_, _, none⟩ _ _ N_p.out).trans ?_; (with_reducible repeat (first | refine Y8 ?_ _ | refine Y7 ?_ | refine Y6 ?_ _)); exact B_1.out) hb); replace B_7 := Y0.mk (Y3 (g := g_7) (o := .cells #[.int .i64 1, .slice Ao179 y461.length co179] 24 (0, 0)) (by (with_reducible repeat (first | refine Y8 ?_ _ | refine Y7 ?_ | refine Y6 ?_ _)); refine Yn (cs := #[.int .i64 1, .slice none 0 0]) ?_ 1 _ rfl; (with_reducible repeat (first | refine Y8 ?_ _ | refine Y7 ?_ | refine Y6 ?_ _)); refine Yn (cs := #[.int .i64 0, .slice none 0 0]) ?_ 0 _ rfl; (with_reducible repeat (first | refine Y8 ?_ _ | refine Y7 ?_ | refine Y6 ?_ _)); exact B_7.out) hb); replace HB := Y0.mk (Y5 (hU HB.out) hb); (try clear hb); (try clear hb2); (try clear hk); (try clear hi)))
 go_ret
 exact ⟨reT, hU HB.out⟩
end Go.Proofs.Yteopkkoblbmggaa.P
end

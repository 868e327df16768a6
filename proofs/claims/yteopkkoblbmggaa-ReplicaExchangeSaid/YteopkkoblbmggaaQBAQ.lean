/- Texts of this claim in one: VP47; no condition. -/
import Derived.Test.YteopkkoblbmggaaQBAD
import Derived.Test.YteopkkoblbmggaaQBAH
import Derived.Test.YteopkkoblbmggaaQBAE
import Derived.Test.YteopkkoblbmggaaQBAP
section
namespace Go.Proofs.Yteopkkoblbmggaa.P
open Go.RowKit Go.Proofs.YteopkkoblbmggaaW.PrintWords Go.Proofs.YteopkkoblbmggaaW.PrintLast Go.Proofs.YteopkkoblbmggaaW.PrintMore
attribute [local go_sem] YR YT Y11 Y12 YL YM YS YU
set_option linter.unusedVariables false
set_option linter.unusedSimpArgs false
attribute [local go_sem high] eqA30
mutual
def Y9.l0 : Nat → Int → Int → Int → List (S30) → Int → List (S30) → Int → List (S30) → Option (Int × (List (S30)) × Int)
 | 0, _, _, _, _, _, _, _, _ => none
 | k + 1, x8, x9, x_4, x_0, x_5, x_1, x_3, x_2 => if x8 < (x_0.length : Int) then (Y9.j1 k x8 x9 true x_4 x_0 x_5 x_1 x_3 x_2) else (Y9.j1 k x8 x9 (decide (x9 < (x_1.length : Int))) x_4 x_0 x_5 x_1 x_3 x_2)
def Y9.j1 : Nat → Int → Int → Bool → Int → List (S30) → Int → List (S30) → Int → List (S30) → Option (Int × (List (S30)) × Int)
 | 0, _, _, _, _, _, _, _, _, _ => none
 | k + 1, x8, x9, x31, x_4, x_0, x_5, x_1, x_3, x_2 => if x31 = true then (if x9 = (x_1.length : Int) then (Y9.j2 k x8 x9 true x_4 x_0 x_5 x_1 x_3 x_2) else (if x8 < (x_0.length : Int) then (if 0 ≤ x8 then (if 0 ≤ x9 then (if x9 < (x_1.length : Int) then ((YN.f ((Y1 x_0 x8).f0.f0) ((Y1 x_0 x8).f0.f1) ((Y1 x_1 x9).f0.f0) ((Y1 x_1 x9).f0.f1)).bind fun t_2 => (Y9.j2 k x8 x9 t_2 x_4 x_0 x_5 x_1 x_3 x_2)) else (none)) else (none)) else (none)) else (Y9.j2 k x8 x9 false x_4 x_0 x_5 x_1 x_3 x_2))) else (if (x_2.length : Int) > 512 then (some (0, ([] : List (S30)), 3)) else (some (x_3, x_2, 0)))
def Y9.j2 : Nat → Int → Int → Bool → Int → List (S30) → Int → List (S30) → Int → List (S30) → Option (Int × (List (S30)) × Int)
 | 0, _, _, _, _, _, _, _, _, _ => none
 | k + 1, x8, x9, x46, x_4, x_0, x_5, x_1, x_3, x_2 => if x46 = true then (if 0 ≤ x8 then (if x8 < (x_0.length : Int) then (if x_2.length < 1353245080339 then (Y9.l0 k (wrap64 (x8 + 1)) x9 x_4 x_0 x_5 x_1 x_3 (x_2 ++ [(⟨(⟨(Y1 x_0 x8).f0.f0, (Y1 x_0 x8).f0.f1⟩ : S26), (Y1 x_0 x8).f1, (⟨(Y1 x_0 x8).f2.f0, (Y1 x_0 x8).f2.f1⟩ : S26), (Y1 x_0 x8).f3, (⟨(Y1 x_0 x8).f4.f0, (Y1 x_0 x8).f4.f1, (Y1 x_0 x8).f4.f2, (Y1 x_0 x8).f4.f3, (Y1 x_0 x8).f4.f4, (Y1 x_0 x8).f4.f5, (Y1 x_0 x8).f4.f6⟩ : S28)⟩ : S30)])) else (none)) else (none)) else (none)) else (if x8 = (x_0.length : Int) then (Y9.j3 k x8 x9 true x_4 x_0 x_5 x_1 x_3 x_2) else (if 0 ≤ x9 then (if x9 < (x_1.length : Int) then (if 0 ≤ x8 then (if x8 < (x_0.length : Int) then ((YN.f ((Y1 x_1 x9).f0.f0) ((Y1 x_1 x9).f0.f1) ((Y1 x_0 x8).f0.f0) ((Y1 x_0 x8).f0.f1)).bind fun t_1 => (Y9.j3 k x8 x9 t_1 x_4 x_0 x_5 x_1 x_3 x_2)) else (none)) else (none)) else (none)) else (none)))
def Y9.j3 : Nat → Int → Int → Bool → Int → List (S30) → Int → List (S30) → Int → List (S30) → Option (Int × (List (S30)) × Int)
 | 0, _, _, _, _, _, _, _, _, _ => none
 | k + 1, x8, x9, x86, x_4, x_0, x_5, x_1, x_3, x_2 => if x86 = true then (if 0 ≤ x9 then (if x9 < (x_1.length : Int) then (if x_2.length < 1353245080339 then (Y9.l0 k x8 (wrap64 (x9 + 1)) x_4 x_0 x_5 x_1 x_3 (x_2 ++ [(⟨(⟨(Y1 x_1 x9).f0.f0, (Y1 x_1 x9).f0.f1⟩ : S26), (Y1 x_1 x9).f1, (⟨(Y1 x_1 x9).f2.f0, (Y1 x_1 x9).f2.f1⟩ : S26), (Y1 x_1 x9).f3, (⟨(Y1 x_1 x9).f4.f0, (Y1 x_1 x9).f4.f1, (Y1 x_1 x9).f4.f2, (Y1 x_1 x9).f4.f3, (Y1 x_1 x9).f4.f4, (Y1 x_1 x9).f4.f5, (Y1 x_1 x9).f4.f6⟩ : S28)⟩ : S30)])) else (none)) else (none)) else (none)) else (if 0 ≤ x8 then (if x8 < (x_0.length : Int) then (if 0 ≤ x9 then (if x9 < (x_1.length : Int) then (if ((!(((Y1 x_0 x8).f0.f0) == ((Y1 x_1 x9).f0.f0)) || (!(((Y1 x_0 x8).f0.f1) == ((Y1 x_1 x9).f0.f1)))) || (!(((Y1 x_0 x8).f1) == ((Y1 x_1 x9).f1)) || ((!(((Y1 x_0 x8).f2.f0) == ((Y1 x_1 x9).f2.f0)) || (!(((Y1 x_0 x8).f2.f1) == ((Y1 x_1 x9).f2.f1)))) || (!(((Y1 x_0 x8).f3) == ((Y1 x_1 x9).f3)) || ((!(((Y1 x_0 x8).f4.f0) == ((Y1 x_1 x9).f4.f0)) || (!(((Y1 x_0 x8).f4.f1) == ((Y1 x_1 x9).f4.f1)) || (!(((Y1 x_0 x8).f4.f2) == ((Y1 x_1 x9).f4.f2)) || (!(((Y1 x_0 x8).f4.f3) == ((Y1 x_1 x9).f4.f3)) || (!(((Y1 x_0 x8).f4.f4) == ((Y1 x_1 x9).f4.f4)) || (!(((Y1 x_0 x8).f4.f5) == ((Y1 x_1 x9).f4.f5)) || (!(((Y1 x_0 x8).f4.f6) == ((Y1 x_1 x9).f4.f6)))))))))))))) = true then (some (0, ([] : List (S30)), 7)) else (if x_2.length < 1353245080339 then (Y9.l0 k (wrap64 (x8 + 1)) (wrap64 (x9 + 1)) x_4 x_0 x_5 x_1 x_3 (x_2 ++ [(⟨(⟨(Y1 x_0 x8).f0.f0, (Y1 x_0 x8).f0.f1⟩ : S26), (Y1 x_0 x8).f1, (⟨(Y1 x_0 x8).f2.f0, (Y1 x_0 x8).f2.f1⟩ : S26), (Y1 x_0 x8).f3, (⟨(Y1 x_0 x8).f4.f0, (Y1 x_0 x8).f4.f1, (Y1 x_0 x8).f4.f2, (Y1 x_0 x8).f4.f3, (Y1 x_0 x8).f4.f4, (Y1 x_0 x8).f4.f5, (Y1 x_0 x8).f4.f6⟩ : S28)⟩ : S30)])) else (none))) else (none)) else (none)) else (none)) else (none))
end
def Y9.f (k : Nat) (a0_0 : Int) (l0_1 : List (S30)) (a1_0 : Int) (l1_1 : List (S30)) : Option (Int × (List (S30)) × Int) := (YK.f a0_0 l0_1 a1_0 l1_1).bind fun t_0 => (if t_0 = 0 then (Y9.l0 k 0 0 a0_0 l0_1 a1_0 l1_1 a0_0 ([] : List (S30))) else (some (0, ([] : List (S30)), t_0)))
theorem Y9.mono_l : ∀ k, (∀ y0 y1 y2 y3 y4 y5 y6 y7, LeO (Y9.l0 k y0 y1 y2 y3 y4 y5 y6 y7) (Y9.l0 (k + 1) y0 y1 y2 y3 y4 y5 y6 y7)) ∧ (∀ y0 y1 y2 y3 y4 y5 y6 y7 y8, LeO (Y9.j1 k y0 y1 y2 y3 y4 y5 y6 y7 y8) (Y9.j1 (k + 1) y0 y1 y2 y3 y4 y5 y6 y7 y8)) ∧ (∀ y0 y1 y2 y3 y4 y5 y6 y7 y8, LeO (Y9.j2 k y0 y1 y2 y3 y4 y5 y6 y7 y8) (Y9.j2 (k + 1) y0 y1 y2 y3 y4 y5 y6 y7 y8)) ∧ (∀ y0 y1 y2 y3 y4 y5 y6 y7 y8, LeO (Y9.j3 k y0 y1 y2 y3 y4 y5 y6 y7 y8) (Y9.j3 (k + 1) y0 y1 y2 y3 y4 y5 y6 y7 y8))
 | 0 => ⟨fun _ _ _ _ _ _ _ _ r h => by simp [Y9.l0] at h, fun _ _ _ _ _ _ _ _ _ r h => by simp [Y9.j1] at h, fun _ _ _ _ _ _ _ _ _ r h => by simp [Y9.j2] at h, fun _ _ _ _ _ _ _ _ _ r h => by simp [Y9.j3] at h⟩
 | k + 1 => by
  obtain ⟨ih0, ih1, ih2, ih3⟩ := Y9.mono_l k
  refine ⟨?_, ?_, ?_, ?_⟩
  ·intro y0 y1 y2 y3 y4 y5 y6 y7
   unfold Y9.l0
   repeat' first
   | (with_reducible exact ih0 _ _ _ _ _ _ _ _)
   | (with_reducible exact ih1 _ _ _ _ _ _ _ _ _)
   | (with_reducible exact ih2 _ _ _ _ _ _ _ _ _)
   | (with_reducible exact ih3 _ _ _ _ _ _ _ _ _)
   | (with_reducible exact LeO.refl _)
   | (with_reducible exact LeO.none _)
   | (with_reducible refine LeO.ite ?_ ?_)
   | (with_reducible refine LeO.bind ?_ (fun _ => ?_))
  ·intro y0 y1 y2 y3 y4 y5 y6 y7 y8
   unfold Y9.j1
   repeat' first
   | (with_reducible exact ih0 _ _ _ _ _ _ _ _)
   | (with_reducible exact ih1 _ _ _ _ _ _ _ _ _)
   | (with_reducible exact ih2 _ _ _ _ _ _ _ _ _)
   | (with_reducible exact ih3 _ _ _ _ _ _ _ _ _)
   | (with_reducible exact LeO.refl _)
   | (with_reducible exact LeO.none _)
   | (with_reducible refine LeO.ite ?_ ?_)
   | (with_reducible refine LeO.bind ?_ (fun _ => ?_))
  ·intro y0 y1 y2 y3 y4 y5 y6 y7 y8
   unfold Y9.j2
   repeat' first
   | (with_reducible exact ih0 _ _ _ _ _ _ _ _)
   | (with_reducible exact ih1 _ _ _ _ _ _ _ _ _)
   | (with_reducible exact ih2 _ _ _ _ _ _ _ _ _)
   | (with_reducible exact ih3 _ _ _ _ _ _ _ _ _)
   | (with_reducible exact LeO.refl _)
   | (with_reducible exact LeO.none _)
   | (with_reducible refine LeO.ite ?_ ?_)
   | (with_reducible refine LeO.bind ?_ (fun _ => ?_))
  ·intro y0 y1 y2 y3 y4 y5 y6 y7 y8
   unfold Y9.j3
   repeat' first
   | (with_reducible exact ih0 _ _ _ _ _ _ _ _)
   | (with_reducible exact ih1 _ _ _ _ _ _ _ _ _)
   | (with_reducible exact ih2 _ _ _ _ _ _ _ _ _)
   | (with_reducible exact ih3 _ _ _ _ _ _ _ _ _)
   | (with_reducible exact LeO.refl _)
   | (with_reducible exact LeO.none _)
   | (with_reducible refine LeO.ite ?_ ?_)
   | (with_reducible refine LeO.bind ?_ (fun _ => ?_))
theorem Y9.mono : ∀ a0 a1 a2 a3 k, LeO (Y9.f k a0 a1 a2 a3) (Y9.f (k + 1) a0 a1 a2 a3) := by
 intro a0 a1 a2 a3 k
 obtain ⟨ih0, ih1, ih2, ih3⟩ := Y9.mono_l k
 unfold Y9.f
 repeat' first
   | (with_reducible exact ih0 _ _ _ _ _ _ _ _)
   | (with_reducible exact ih1 _ _ _ _ _ _ _ _ _)
   | (with_reducible exact ih2 _ _ _ _ _ _ _ _ _)
   | (with_reducible exact ih3 _ _ _ _ _ _ _ _ _)
   | (with_reducible exact LeO.refl _)
   | (with_reducible exact LeO.none _)
   | (with_reducible refine LeO.ite ?_ ?_)
   | (with_reducible refine LeO.bind ?_ (fun _ => ?_))
def Y9.T7 : Bool × List (List Nat × List Nat) := (true, [([], []), ([0], [0]), ([], []), ([2], [2]), ([], []), ([3, 4], [3, 4]), ([5], [5]), ([6], [6]), ([1, 7], [1, 7]), ([0, 1, 2, 3, 4, 5, 6, 7, 8], []), ([9, 8, 8, 0, 1, 2, 3, 4, 5, 6, 7, 8], [8, 9])])
def Y9.B7 : List Nat := [0, 1, 0, 4, 0, 28, 60, 124, 255, 511, 1023]
theorem Y9.tab7 : rtab .any (opsOf Try.f31 7) = Y9.T7 := by kernel_rfl
theorem Y9.bits7 : Y1d Y9.T7.2 Y9.B7 = true := by kernel_rfl
def Y9.T10 : Bool × List (List Nat × List Nat) := (true, [([], []), ([], []), ([1], [1]), ([2], [2]), ([0, 3], [0, 3]), ([4], [4]), ([5], [5]), ([5], [5]), ([7, 5], [5, 7]), ([8, 5], [5, 8]), ([6, 9, 5], [5, 6, 9]), ([10, 5, 5], [5, 10]), ([11], [11]), ([12, 11], [11, 12]), ([11], [11]), ([13, 14, 11], [11, 13, 14]), ([15, 11], [11, 15]), ([16, 11], [11, 16]), ([11], [11]), ([18, 11], [11, 18]), ([11], [11]), ([19, 20, 11], [11, 19, 20]), ([21, 11], [11, 21]), ([22, 11], [11, 22]), ([17, 23, 11, 11], [11, 17, 23]), ([11, 24, 5], [5, 11, 24]), ([5, 25], [5, 25]), ([26, 24], [26])])
def Y9.B10 : List Nat := [0, 0, 2, 6, 15, 31, 63, 63, 191, 447, 1023, 2047, 4095, 8191, 4095, 32767, 65535, 131071, 4095, 266239, 4095, 1839103, 3936255, 8130559, 16777215, 33554431, 67108863, 134217727]
theorem Y9.tab10 : rtab .any (opsOf Try.f31 10) = Y9.T10 := by kernel_rfl
theorem Y9.bits10 : Y1d Y9.T10.2 Y9.B10 = true := by kernel_rfl
def Y9.T11 : Bool × List (List Nat × List Nat) := (true, [([], []), ([0], [0]), ([], []), ([2], [2]), ([], []), ([3, 4], [3, 4]), ([5], [5]), ([6], [6]), ([1, 7], [1, 7]), ([0, 1, 2, 3, 4, 5, 6, 7, 8], []), ([9, 8, 8, 0, 1, 2, 3, 4, 5, 6, 7, 8], [8, 9])])
def Y9.B11 : List Nat := [0, 1, 0, 4, 0, 28, 60, 124, 255, 511, 1023]
theorem Y9.tab11 : rtab .any (opsOf Try.f31 11) = Y9.T11 := by kernel_rfl
theorem Y9.bits11 : Y1d Y9.T11.2 Y9.B11 = true := by kernel_rfl
def Y9.T13 : Bool × List (List Nat × List Nat) := (true, [([], []), ([], []), ([1], [1]), ([2], [2]), ([0, 3], [0, 3]), ([4], [4]), ([5], [5]), ([6, 5], [5, 6]), ([5], [5]), ([7, 8, 5], [5, 7, 8]), ([9, 5], [5, 9]), ([10, 5], [5, 10]), ([5], [5]), ([12, 5], [5, 12]), ([5], [5]), ([13, 14, 5], [5, 13, 14]), ([15, 5], [5, 15]), ([16, 5], [5, 16]), ([11, 17, 5, 5], [5, 11, 17]), ([5, 18], [5, 18]), ([19, 18], [19])])
def Y9.B13 : List Nat := [0, 0, 2, 6, 15, 31, 63, 127, 63, 511, 1023, 2047, 63, 4159, 63, 28735, 61503, 127039, 262143, 524287, 1048575]
theorem Y9.tab13 : rtab .any (opsOf Try.f31 13) = Y9.T13 := by kernel_rfl
theorem Y9.bits13 : Y1d Y9.T13.2 Y9.B13 = true := by kernel_rfl
def Y9.T14 : Bool × List (List Nat × List Nat) := (true, [([], []), ([0], [0]), ([], []), ([2], [2]), ([], []), ([3, 4], [3, 4]), ([5], [5]), ([6], [6]), ([1, 7], [1, 7]), ([0, 1, 2, 3, 4, 5, 6, 7, 8], []), ([9, 8, 8, 0, 1, 2, 3, 4, 5, 6, 7, 8], [8, 9])])
def Y9.B14 : List Nat := [0, 1, 0, 4, 0, 28, 60, 124, 255, 511, 1023]
theorem Y9.tab14 : rtab .any (opsOf Try.f31 14) = Y9.T14 := by kernel_rfl
theorem Y9.bits14 : Y1d Y9.T14.2 Y9.B14 = true := by kernel_rfl
def Y9.T16 : Bool × List (List Nat × List Nat) := (true, [([], []), ([0], [0]), ([], []), ([1, 2], [1, 2]), ([3], [3]), ([], []), ([5], [5]), ([], []), ([6, 7], [6, 7]), ([8], [8]), ([4, 9], [4, 9]), ([10], [10])])
def Y9.B16 : List Nat := [0, 1, 0, 7, 15, 0, 32, 0, 224, 480, 1023, 2047]
theorem Y9.tab16 : rtab .any (opsOf Try.f31 16) = Y9.T16 := by kernel_rfl
theorem Y9.bits16 : Y1d Y9.T16.2 Y9.B16 = true := by kernel_rfl
set_option maxHeartbeats 8000000 in
set_option maxRecDepth 100000 in
theorem Y9.calls (k : Nat) (a0_0 : Int) (A0_1 : Option Addr) (c0_1 : Nat) (l0_1 : List (S30)) (a1_0 : Int) (A1_1 : Option Addr) (c1_1 : Nat) (l1_1 : List (S30)) (r1 : Int) (r2 : List (S30)) (r3 : Int) (w : World) (hr0_1 : Kd.C k30 w A0_1 l0_1.length l0_1) (hc0_1 : l0_1.length ≤ c0_1) (hr1_1 : Kd.C k30 w A1_1 l1_1.length l1_1) (hc1_1 : l1_1.length ≤ c1_1) (h : Y9.f k a0_0 l0_1 a1_0 l1_1 = some (r1, r2, r3)) :
  Calls Try.prog 31 #[.agg #[.int .i64 a0_0, .slice A0_1 l0_1.length c0_1], .agg #[.int .i64 a1_0, .slice A1_1 l1_1.length c1_1]] w fun e w' => ∃ v1_ : Value, e = .returned (.tuple #[.agg #[.int .i64 r1, v1_], .int .i64 r3]) ∧ Kd.R k30 30 w' w.heap.size (fun _ => True) v1_ r2 ∧ Below w.heap.size w w' := by
 have hu24 := Try.underlying24
 have hu26 := Try.underlying26
 have hu30 := Try.underlying30
 have HR0_1 := Y0.mk hr0_1
 have HC0_1 := Y0.mk hc0_1
 clear hr0_1 hc0_1
 have HR1_1 := Y0.mk hr1_1
 have HC1_1 := Y0.mk hc1_1
 clear hr1_1 hc1_1
 have HB := Y0.mk (Below.refl w.heap.size w)
 have H : ((YK.f a0_0 l0_1 a1_0 l1_1).bind fun t_0 => (if t_0 = 0 then (Y9.l0 k 0 0 a0_0 l0_1 a1_0 l1_1 a0_0 ([] : List (S30))) else (some (0, ([] : List (S30)), t_0)))) = some (r1, r2, r3) := h
 clear h
 obtain ⟨t_0, A30, H⟩ := bS H
 replace H : (if t_0 = 0 then (Y9.l0 k 0 0 a0_0 l0_1 a1_0 l1_1 a0_0 ([] : List (S30))) else (some (0, ([] : List (S30)), t_0))) = some (r1, r2, r3) := H
 have A3 := Y0.mk A30
 clear A30
 by_cases c4 : t_0 = 0
 ·rw [if_pos c4] at H
  have c4b0 := bqT c4
  have c4b1 := bnF c4
  clear c4
  have H' := Y0.mk H
  clear H
  go_enter Try.func31, Try.ntmps31
  go_wp2_with (first | ((with_reducible refine Ye (N := 2) rfl ?_); (try (refine YD (by rfl) ?_; dsimp only)); refine Yf ?hg (N := 2) ?hd (cs := #[.int .i64 a0_0, .slice A0_1 l0_1.length c0_1]) (t := 24) ?hr ?_; (case hd => rfl); (case hg => rfl); (case hr => first | (go_simp; done) | (go_simp; rfl)); intro g_0 hg w5 hbox hb; have n0_ := Y0.mk (Y5 (hU HB.out) hb); have n1_ := Y0.mk (hbox); have n2_ := gE hg HB; have n3_ := gE hg HB; clear HB; have HB := n0_; have B_0 := n1_; have W_0 := n2_; have G_0 := n3_; clear n0_ n1_ n2_ n3_; clear hb hbox hg) | ((with_reducible refine Ye (N := 3) rfl ?_); (try (refine YD (by rfl) ?_; dsimp only)); refine Yf ?hg (N := 3) ?hd (cs := #[.int .i64 a1_0, .slice A1_1 l1_1.length c1_1]) (t := 24) ?hr ?_; (case hd => rfl); (case hg => rfl); (case hr => first | (go_simp; done) | (go_simp; rfl)); intro g_1 hg w6 hbox hb; have n0_ := Y0.mk (Y3 (bU B_0.out) hb); have n1_ := Y0.mk (Y5 (hU HB.out) hb); have n2_ := Y0.mk (hbox); have n3_ := gE hg HB; have n4_ := gE hg HB; have n5_ := gL hg B_0; have n6_ := gG hg B_0; clear B_0; clear HB; have B_0 := n0_; have HB := n1_; have B_1 := n2_; have W_2 := n3_; have G_2 := n4_; have N_b := n5_; have N_a := n6_; clear n0_ n1_ n2_ n3_ n4_ n5_ n6_; clear hb hbox hg) | ((with_reducible refine Ye (N := 4) rfl ?_); (try (refine YD (by rfl) ?_; dsimp only)); refine Yf ?hg (N := 4) ?hd (cs := #[.int .i64 0, .slice none 0 0]) (t := 24) ?hr ?_; (case hd => rfl); (case hg => rfl); (case hr => first | (go_simp; done) | (go_simp; rfl)); intro g_3 hg w7 hbox hb; have n0_ := Y0.mk (Y3 (bU B_0.out) hb); have n1_ := Y0.mk (Y3 (bU B_1.out) hb); have n2_ := Y0.mk (Y5 (hU HB.out) hb); have n3_ := Y0.mk (hbox); have n4_ := gE hg HB; have n5_ := gE hg HB; have n6_ := gL hg B_0; have n7_ := gG hg B_0; have n8_ := gL hg B_1; have n9_ := gG hg B_1; clear B_0; clear B_1; clear HB; have B_0 := n0_; have B_1 := n1_; have HB := n2_; have B_3 := n3_; have W_1 := n4_; have G_1 := n5_; have N_4 := n6_; have N_3 := n7_; have N_8 := n8_; have N_9 := n9_; clear n0_ n1_ n2_ n3_ n4_ n5_ n6_ n7_ n8_ n9_; clear hb hbox hg; have hnb8 := N_b.out; have hnc8 := N_a.out; have hnb9 := N_4.out; have hnc9 := N_3.out; have z_2 := Y2 B_0.out; have f_1 := Y4 B_0.out; have hnb11 := N_8.out; have hnc11 := N_9.out; have z_0 := Y2 B_1.out; have f_0 := Y4 B_1.out) | ((with_reducible refine Yd (f := 76) rfl ?_); refine goesA (some 12) Try.func76 #[.agg #[.int .i64 a0_0, .slice A0_1 l0_1.length c0_1], .agg #[.int .i64 a1_0, .slice A1_1 l1_1.length c1_1]] ?_; (with_reducible refine (YK.calls a0_0 _ _ l0_1 a1_0 _ _ l1_1 t_0 _ ?side1 ?side2 ?side3 ?side4 A3.out).mono ?_); (case side1 => repeat (first | exact (Kd.C_below HR0_1.out HB.out) | (with_reducible refine Kd.C_alloc ?_ _) | (with_reducible refine Kd.C_drewN ?_ _) | (with_reducible refine Kd.C_drew ?_))); (case side2 => exact HC0_1.out); (case side3 => repeat (first | exact (Kd.C_below HR1_1.out HB.out) | (with_reducible refine Kd.C_alloc ?_ _) | (with_reducible refine Kd.C_drewN ?_ _) | (with_reducible refine Kd.C_drew ?_))); (case side4 => exact HC1_1.out); rintro e w13 ⟨rfl, hb⟩; refine ⟨_, rfl, ?_⟩; replace B_0 := Y0.mk (Y3 (bU B_0.out) hb); replace B_1 := Y0.mk (Y3 (bU B_1.out) hb); replace B_3 := Y0.mk (Y3 (bU B_3.out) hb); replace HB := Y0.mk (Y5 (hU HB.out) hb); (try clear hb); (try clear hb2); (try clear hk); (try clear hi); have z_3 := Y2 B_0.out; have f_3 := Y4 B_0.out) | ((with_reducible refine Ye (N := 7) rfl ?_); (try (refine YD (by rfl) ?_; dsimp only)); refine Yf ?hg (N := 7) ?hd (cs := #[.int .i64 0, .slice none 0 0]) (t := 24) ?hr ?_; (case hd => rfl); (case hg => rfl); (case hr => first | (go_simp; done) | (go_simp; rfl)); intro g_2 hg w15 hbox hb; have n0_ := Y0.mk (Y3 (bU B_0.out) hb); have n1_ := Y0.mk (Y3 (bU B_1.out) hb); have n2_ := Y0.mk (Y3 (bU B_3.out) hb); have n3_ := Y0.mk (Y5 (hU HB.out) hb); have n4_ := Y0.mk (hbox); have n5_ := gE hg HB; have n6_ := gE hg HB; have n7_ := gL hg B_0; have n8_ := gG hg B_0; have n9_ := gL hg B_1; have n10_ := gG hg B_1; have n11_ := gL hg B_3; have n12_ := gG hg B_3; clear B_0; clear B_1; clear B_3; clear HB; have B_0 := n0_; have B_1 := n1_; have B_3 := n2_; have HB := n3_; have B_2 := n4_; have W_3 := n5_; have G_3 := n6_; have N_0 := n7_; have N_5 := n8_; have N_2 := n9_; have N_7 := n10_; have N_1 := n11_; have N_6 := n12_; clear n0_ n1_ n2_ n3_ n4_ n5_ n6_ n7_ n8_ n9_ n10_ n11_ n12_; clear hb hbox hg; have hnb16 := N_5.out; have hnc16 := N_0.out; have hnb17 := N_7.out; have hnc17 := N_2.out; have hnb18 := N_6.out; have hnc18 := N_1.out; have z_1 := Y2 B_2.out; have f_2 := Y4 B_2.out))
  go_loopg [8, 9] k (fun kq v8 v9 w' => ∃ (x8_1 : Int) (x9_1 : Int) (x797000_1 : Int) (x799001_1 : List (S30)) (u799001 : Value), v8 = .int .i64 x8_1 ∧ v9 = .int .i64 x9_1 ∧ Y0 (Y9.l0 kq x8_1 x9_1 a0_0 l0_1 a1_0 l1_1 a0_0 x799001_1 = some (r1, r2, r3)) ∧ Y0 (kq ≤ k) ∧ Y0 (Kd.R k30 30 w' w.heap.size (fun _ => True) u799001 x799001_1) ∧ Y0 (w'.heap[g_0]? = some (.cells #[.int .i64 a0_0, (.slice A0_1 l0_1.length c0_1)] 24 (0, 0))) ∧ Y0 (w'.heap[g_1]? = some (.cells #[.int .i64 a1_0, (.slice A1_1 l1_1.length c1_1)] 24 (0, 0))) ∧ Y0 (w'.heap[g_3]? = some (.cells #[.int .i64 x797000_1, (.slice none 0 0)] 24 (0, 0))) ∧ Y0 (w'.heap[g_2]? = some (.cells #[.int .i64 a0_0, u799001] 24 (0, 0))) ∧ Y0 (Below w.heap.size w w'))
  case atStart => exact ⟨(0), (0), (0), (([] : List (S30))), (.slice none 0 0), reS, reS, H', ⟨Nat.le_refl _⟩, ⟨by first | exact Kd.R_nil _ _ _ _ _ | exact Kd.N_nil _ _ _ _ _ | exact Kd.V_nil _ _ _ _ _ | exact Kd.Q_nil _ _ _ _ _ | exact Kd.S_nil _ _ _ _ _⟩, ⟨by (with_reducible repeat (first | refine Y8 ?_ _ | refine Y7 ?_ | refine Y6 ?_ _)); refine (Below.heap_setCell _ ⟨_, _, none⟩ _ _ N_0.out).trans ?_; (with_reducible repeat (first | refine Y8 ?_ _ | refine Y7 ?_ | refine Y6 ?_ _)); refine (Below.heap_setCell _ ⟨_, _, none⟩ _ _ N_0.out).trans ?_; (with_reducible repeat (first | refine Y8 ?_ _ | refine Y7 ?_ | refine Y6 ?_ _)); exact B_0.out⟩, ⟨by (with_reducible repeat (first | refine Y8 ?_ _ | refine Y7 ?_ | refine Y6 ?_ _)); refine (Below.heap_setCell _ ⟨_, _, none⟩ _ _ N_2.out).trans ?_; (with_reducible repeat (first | refine Y8 ?_ _ | refine Y7 ?_ | refine Y6 ?_ _)); refine (Below.heap_setCell _ ⟨_, _, none⟩ _ _ N_2.out).trans ?_; (with_reducible repeat (first | refine Y8 ?_ _ | refine Y7 ?_ | refine Y6 ?_ _)); exact B_1.out⟩, ⟨by (with_reducible repeat (first | refine Y8 ?_ _ | refine Y7 ?_ | refine Y6 ?_ _)); refine (Below.heap_setCell _ ⟨_, _, none⟩ _ _ N_1.out).trans ?_; (with_reducible repeat (first | refine Y8 ?_ _ | refine Y7 ?_ | refine Y6 ?_ _)); refine (Below.heap_setCell _ ⟨_, _, none⟩ _ _ N_1.out).trans ?_; (with_reducible repeat (first | refine Y8 ?_ _ | refine Y7 ?_ | refine Y6 ?_ _)); exact B_3.out⟩, ⟨by (with_reducible repeat (first | refine Y8 ?_ _ | refine Y7 ?_ | refine Y6 ?_ _)); refine Yn (cs := #[.int .i64 a0_0, .slice none 0 0]) ?_ 1 _ rfl; (with_reducible repeat (first | refine Y8 ?_ _ | refine Y7 ?_ | refine Y6 ?_ _)); refine Yn (cs := #[.int .i64 0, .slice none 0 0]) ?_ 0 _ rfl; (with_reducible repeat (first | refine Y8 ?_ _ | refine Y7 ?_ | refine Y6 ?_ _)); exact B_2.out⟩, ⟨hU HB.out⟩⟩
  case round =>
   clear H'
   try clear c1
   try clear p2
   try clear c3
   try clear c4
   try clear c4b0
   try clear c4b1
   try clear c7
   try clear c8
   try clear c9
   try clear c11
   try clear c16
   try clear c17
   try clear c18
   try clear z_2
   try clear z_7
   try clear z_0
   try clear z_6
   try clear z_3
   try clear z_9
   try clear z_1
   try clear z_4
   try clear f_1
   try clear f_7
   try clear f_0
   try clear f_6
   try clear f_3
   try clear f_a
   try clear f_2
   try clear f_5
   obtain ⟨x8_1, x9_1, x797000_1, x799001_1, u799001, rfl, rfl, HA, HK1, HO_799001, B_0, B_1, B_3, B_2, HB⟩ := hrel
   cases gk with
   | zero => exact absurd HA.out (by simp [Y9.l0])
   | succ k1 =>
    have H := HA.out
    clear HA
    simp only [Y9.l0] at H
    have HC20 := Y0.mk H
    clear H
    go_upto_region 6 with (fail)
    go_cut [31] (fun v31 wc => ∃ (kq : Nat) (x31_19 : Bool), v31 = .bool x31_19 ∧ Y0 (Y9.j1 kq x8_1 x9_1 x31_19 a0_0 l0_1 a1_0 l1_1 a0_0 x799001_1 = some (r1, r2, r3)) ∧ Y0 (kq ≤ k1) ∧ Y0 (Kd.R k30 30 wc w.heap.size (fun _ => True) u799001 x799001_1) ∧ Y0 (wc.heap[g_0]? = some (.cells #[.int .i64 a0_0, (.slice A0_1 l0_1.length c0_1)] 24 (0, 0))) ∧ Y0 (wc.heap[g_1]? = some (.cells #[.int .i64 a1_0, (.slice A1_1 l1_1.length c1_1)] 24 (0, 0))) ∧ Y0 (wc.heap[g_3]? = some (.cells #[.int .i64 x797000_1, (.slice none 0 0)] 24 (0, 0))) ∧ Y0 (wc.heap[g_2]? = some (.cells #[.int .i64 a0_0, u799001] 24 (0, 0))) ∧ Y0 (Below w.heap.size w wc))
    case first =>
     have H := HC20.out
     clear HC20
     by_cases c21 : x8_1 < (l0_1.length : Int)
     ·rw [if_pos c21] at H
      have c21b0 := decide_eq_true c21
      clear c21
      (first | rw [c21b0] | (simp only [i64_w, i32_w]; rw [c21b0]) | skip)
      have H' := Y0.mk H
      clear H
      have hnb22 := N_b.out
      have hnc22 := N_a.out
      have hnb23 := N_4.out
      have hnc23 := N_3.out
      have hnb24 := N_0.out
      have hnc24 := N_5.out
      have z_5 := Y2 B_0.out
      have f_4 := Y4 B_0.out
      go_wp2
      go_meet
      case rel => exact ⟨_, (true), reS, H', ⟨by have := HK1.out; first | omega | exact Nat.le_refl _⟩, ⟨by (with_reducible repeat (first | apply Kd.R_alloc | apply Kd.R_drewN | apply Kd.R_drew)); exact HO_799001.out⟩, ⟨kB B_0⟩, ⟨kB B_1⟩, ⟨kB B_3⟩, ⟨kB B_2⟩, ⟨hU HB.out⟩⟩
     ·rw [if_neg c21] at H
      have c21b0 := decide_eq_false c21
      clear c21
      (first | rw [c21b0] | (simp only [i64_w, i32_w]; rw [c21b0]) | skip)
      have H' := Y0.mk H
      clear H
      have hnb26 := N_b.out
      have hnc26 := N_a.out
      have hnb27 := N_4.out
      have hnc27 := N_3.out
      have hnb28 := N_0.out
      have hnc28 := N_5.out
      have z_a := Y2 B_0.out
      have f_8 := Y4 B_0.out
      have hnb30 := N_8.out
      have hnc30 := N_9.out
      have hnb31 := N_2.out
      have hnc31 := N_7.out
      have z_8 := Y2 B_1.out
      have f_9 := Y4 B_1.out
      go_wp2
      go_meet
      case rel => exact ⟨_, (decide (x9_1 < (l1_1.length : Int))), reS, H', ⟨by have := HK1.out; first | omega | exact Nat.le_refl _⟩, ⟨by (with_reducible repeat (first | apply Kd.R_alloc | apply Kd.R_drewN | apply Kd.R_drew)); exact HO_799001.out⟩, ⟨kB B_0⟩, ⟨kB B_1⟩, ⟨kB B_3⟩, ⟨kB B_2⟩, ⟨hU HB.out⟩⟩
    case rest =>
     clear HC20
     try clear c1
     try clear c2
     try clear p2
     try clear c3
     try clear c4
     try clear c4b0
     try clear c4b1
     try clear c7
     try clear c8
     try clear c9
     try clear c11
     try clear c16
     try clear c17
     try clear c18
     try clear c21
     try clear c21b0
     try clear c22
     try clear c23
     try clear c24
     try clear c26
     try clear c27
     try clear c28
     try clear c30
     try clear c31
     try clear z_2
     try clear z_7
     try clear z_0
     try clear z_6
     try clear z_3
     try clear z_9
     try clear z_1
     try clear z_4
     try clear z_5
     try clear z_k
     try clear z_a
     try clear z_d
     try clear z_8
     try clear z_l
     try clear f_1
     try clear f_7
     try clear f_0
     try clear f_6
     try clear f_3
     try clear f_a
     try clear f_2
     try clear f_5
     try clear f_4
     try clear f_b
     try clear f_8
     try clear f_k
     try clear f_9
     try clear f_f
     try clear p2
     obtain ⟨kq, x31_19, rfl, HA, HJ19, HO_799001, B_0, B_1, B_3, B_2, HB⟩ := hcut
     cases kq with
     | zero => exact absurd HA.out (by simp [Y9.j1])
     | succ kj19 =>
      have H := HA.out
      clear HA
      simp only [Y9.j1] at H
      by_cases c33 : x31_19 = true
      ·subst c33
       rw [if_pos rfl] at H
       have HC34 := Y0.mk H
       clear H
       go_upto_region 10 with (fail)
       go_cut [46] (fun v46 wc => ∃ (kq : Nat) (x46_33 : Bool), v46 = .bool x46_33 ∧ Y0 (Y9.j2 kq x8_1 x9_1 x46_33 a0_0 l0_1 a1_0 l1_1 a0_0 x799001_1 = some (r1, r2, r3)) ∧ Y0 (kq ≤ kj19) ∧ Y0 (Kd.R k30 30 wc w.heap.size (fun _ => True) u799001 x799001_1) ∧ Y0 (wc.heap[g_0]? = some (.cells #[.int .i64 a0_0, (.slice A0_1 l0_1.length c0_1)] 24 (0, 0))) ∧ Y0 (wc.heap[g_1]? = some (.cells #[.int .i64 a1_0, (.slice A1_1 l1_1.length c1_1)] 24 (0, 0))) ∧ Y0 (wc.heap[g_3]? = some (.cells #[.int .i64 x797000_1, (.slice none 0 0)] 24 (0, 0))) ∧ Y0 (wc.heap[g_2]? = some (.cells #[.int .i64 a0_0, u799001] 24 (0, 0))) ∧ Y0 (Below w.heap.size w wc))
       case first =>
        have H := HC34.out
        clear HC34
        by_cases c35 : x9_1 = (l1_1.length : Int)
        ·rw [if_pos c35] at H
         have c35b0 := bqT c35
         have c35b1 := bnF c35
         clear c35
         (first | rw [c35b0] | (simp only [i64_w, i32_w]; rw [c35b0]) | skip)
         have H' := Y0.mk H
         clear H
         try go_wp2
         replace HO_799001 := Y0.mk (Kd.R_drew HO_799001.out)
         replace B_0 := Y0.mk (Y7 B_0.out)
         replace B_1 := Y0.mk (Y7 B_1.out)
         replace B_3 := Y0.mk (Y7 B_3.out)
         replace B_2 := Y0.mk (Y7 B_2.out)
         replace HB := Y0.mk (Yv HB.out)
         refine Y19 (n := 28) (S := fun w' => w'.cell? ⟨g_1, 0, none⟩ = some (.int .i64 a1_0) ∧ w'.cell? ⟨g_1, 1, none⟩ = some (.slice A1_1 l1_1.length c1_1)) (ds := []) #[false, false, false, false, false, false, false, false, false, false, false, false, false, false, false, false, false, false, false, false, false, false, false, false, false, false, false, false] (by kernel_rfl) rfl rfl ⟨(Y2 B_1.out 0).trans rfl, (Y2 B_1.out 1).trans rfl⟩ (fun hHeld => ?_); refine YO Y9.tab10 Y9.bits10 (fun HT_ HW_ => ?_)
         generalize wc.drew = w36 at HO_799001 B_0 B_1 B_3 B_2 HB hHeld ⊢
         refine puA 0 47 (bs 28 1) ?_
         refine puA 1 48 (bs 28 3) ?_
         refine tkA 2 49 (bs 28 7) hHeld ?_
         refine puA 3 50 (bs 28 15) ?_
         refine puA 4 51 (bs 28 31) ?_
         refine puA 5 52 (bs 28 63) ?_
         refine skA 6 53 (bs 28 127) ?_
         refine skA 7 54 (bs 28 255) ?_
         refine skA 8 55 (bs 28 511) ?_
         refine skA 9 56 (bs 28 1023) ?_
         refine skA 10 57 (bs 28 2047) ?_
         refine skA 11 58 (bs 28 4095) ?_
         refine skA 12 59 (bs 28 8191) ?_
         refine skA 13 60 (bs 28 16383) ?_
         refine skA 14 61 (bs 28 32767) ?_
         refine skA 15 62 (bs 28 65535) ?_
         refine skA 16 63 (bs 28 131071) ?_
         refine skA 17 64 (bs 28 262143) ?_
         refine skA 18 65 (bs 28 524287) ?_
         refine skA 19 66 (bs 28 1048575) ?_
         refine skA 20 67 (bs 28 2097151) ?_
         refine skA 21 68 (bs 28 4194303) ?_
         refine skA 22 69 (bs 28 8388607) ?_
         refine skA 23 70 (bs 28 16777215) ?_
         refine skA 24 71 (bs 28 33554431) ?_
         refine skA 25 72 (bs 28 67108863) ?_
         refine puA 26 73 (bs 28 134217727) ?_
         refine puA 27 46 (bs 28 268435455) ?_
         refine done_ (Y17 HT_.out (by kernel_rfl)) ?_
         try go_wp2
         go_meet
         case rel => exact ⟨_, (true), reS, H', ⟨by have := HK1.out; have := HJ19.out; first | omega | exact Nat.le_refl _⟩, ⟨by (with_reducible repeat (first | apply Kd.R_alloc | apply Kd.R_drewN | apply Kd.R_drew)); exact HO_799001.out⟩, ⟨kB B_0⟩, ⟨kB B_1⟩, ⟨kB B_3⟩, ⟨kB B_2⟩, ⟨hU HB.out⟩⟩
        ·rw [if_neg c35] at H
         have c35b0 := bqF c35
         have c35b1 := bnT c35
         (first | rw [c35b0] | (simp only [i64_w, i32_w]; rw [c35b0]) | skip)
         by_cases c37 : x8_1 < (l0_1.length : Int)
         ·rw [if_pos c37] at H
          have c37b0 := decide_eq_true c37
          clear c37
          obtain ⟨c38, H⟩ := iS H
          have c38b0 := decide_eq_true c38
          clear c38
          obtain ⟨c39, H⟩ := iS H
          have c39b0 := decide_eq_true c39
          clear c39
          obtain ⟨c40, H⟩ := iS H
          have c40b0 := decide_eq_true c40
          clear c40
          obtain ⟨t_2, A410, H⟩ := bS H
          replace H : (Y9.j2 kj19 x8_1 x9_1 t_2 a0_0 l0_1 a1_0 l1_1 a0_0 x799001_1) = some (r1, r2, r3) := H
          have A41 := Y0.mk A410
          clear A410
          have H' := Y0.mk H
          clear H
          try go_wp2
          replace HO_799001 := Y0.mk (Kd.R_drew HO_799001.out)
          replace B_0 := Y0.mk (Y7 B_0.out)
          replace B_1 := Y0.mk (Y7 B_1.out)
          replace B_3 := Y0.mk (Y7 B_3.out)
          replace B_2 := Y0.mk (Y7 B_2.out)
          replace HB := Y0.mk (Yv HB.out)
          have p799 : 0 ≤ (x8_1 : Int) := of_decide_eq_true (by first | (with_reducible assumption) | assumption)
          have q799 : x8_1 < (l0_1.length : Int) := of_decide_eq_true (by first | (with_reducible assumption) | assumption)
          obtain ⟨d_3, e799, m_20, m_1u, m_1x, m_1z, m_1r, m_22, m_1n, m_1b, m_17, m_24, m_1g, m_21, m_12⟩ := Y14 HR0_1.out x8_1 p799 q799
          have q_2i := m_12
          have q_23 := m_21
          have q_38 := m_1g
          have q_34 := m_24
          have q_32 := m_17
          have q_2h := m_1b
          have q_27 := m_1n
          have q_25 := m_22
          have q_1y := m_1r
          have q_2c := m_1z
          have q_2y := m_1x
          have q_20 := m_1u
          have q_2k := m_20
          cases e799
          replace m_20 := hbC HB m_20
          replace m_1u := hbC HB m_1u
          replace m_1x := hbC HB m_1x
          replace m_1z := hbC HB m_1z
          replace m_1r := hbC HB m_1r
          replace m_22 := hbC HB m_22
          replace m_1n := hbC HB m_1n
          replace m_1b := hbC HB m_1b
          replace m_17 := hbC HB m_17
          replace m_24 := hbC HB m_24
          replace m_1g := hbC HB m_1g
          replace m_21 := hbC HB m_21
          replace m_12 := hbC HB m_12
          replace p799 := eq_true p799
          replace q799 := eq_true q799
          have p800 : 0 ≤ (x9_1 : Int) := of_decide_eq_true (by first | (with_reducible assumption) | assumption)
          have q800 : x9_1 < (l1_1.length : Int) := of_decide_eq_true (by first | (with_reducible assumption) | assumption)
          obtain ⟨d_4, e800, m_u, m_x, m_1v, m_w, m_q, m_25, m_1a, m_1e, m_r, m_s, m_1k, m_1j, m_1f⟩ := Y14 HR1_1.out x9_1 p800 q800
          have q_1z := m_1f
          have q_2g := m_1j
          have q_2q := m_1k
          have q_2b := m_s
          have q_22 := m_r
          have q_1v := m_1e
          have q_2u := m_1a
          have q_2v := m_25
          have q_2t := m_q
          have q_31 := m_w
          have q_30 := m_1v
          have q_2z := m_x
          have q_2d := m_u
          cases e800
          replace m_u := hbC HB m_u
          replace m_x := hbC HB m_x
          replace m_1v := hbC HB m_1v
          replace m_w := hbC HB m_w
          replace m_q := hbC HB m_q
          replace m_25 := hbC HB m_25
          replace m_1a := hbC HB m_1a
          replace m_1e := hbC HB m_1e
          replace m_r := hbC HB m_r
          replace m_s := hbC HB m_s
          replace m_1k := hbC HB m_1k
          replace m_1j := hbC HB m_1j
          replace m_1f := hbC HB m_1f
          replace p800 := eq_true p800
          replace q800 := eq_true q800
          refine Y19 (n := 28) (S := fun w' => w'.cell? ⟨g_1, 0, none⟩ = some (.int .i64 a1_0) ∧ w'.cell? ⟨g_1, 1, none⟩ = some (.slice (some d_4) l1_1.length c1_1) ∧ w'.cell? ⟨g_0, 0, none⟩ = some (.int .i64 a0_0) ∧ w'.cell? ⟨g_0, 1, none⟩ = some (.slice (some d_3) l0_1.length c0_1) ∧ w'.cell? (d_3.add ((x8_1).toNat * 13)) = some (.int .i64 ((Y1 l0_1 x8_1).f0.f0)) ∧ w'.cell? ⟨(d_3.add ((x8_1).toNat * 13)).block, (d_3.add ((x8_1).toNat * 13)).off + 1, none⟩ = some (.int .i64 ((Y1 l0_1 x8_1).f0.f1)) ∧ w'.cell? ⟨(d_3.add ((x8_1).toNat * 13)).block, (d_3.add ((x8_1).toNat * 13)).off + 2, none⟩ = some (.int .i64 ((Y1 l0_1 x8_1).f1)) ∧ w'.cell? ⟨(d_3.add ((x8_1).toNat * 13)).block, (d_3.add ((x8_1).toNat * 13)).off + 3, none⟩ = some (.int .i64 ((Y1 l0_1 x8_1).f2.f0)) ∧ w'.cell? ⟨(d_3.add ((x8_1).toNat * 13)).block, (d_3.add ((x8_1).toNat * 13)).off + 4, none⟩ = some (.int .i64 ((Y1 l0_1 x8_1).f2.f1)) ∧ w'.cell? ⟨(d_3.add ((x8_1).toNat * 13)).block, (d_3.add ((x8_1).toNat * 13)).off + 5, none⟩ = some (.bool ((Y1 l0_1 x8_1).f3)) ∧ w'.cell? ⟨(d_3.add ((x8_1).toNat * 13)).block, (d_3.add ((x8_1).toNat * 13)).off + 6, none⟩ = some (.int .i64 ((Y1 l0_1 x8_1).f4.f0)) ∧ w'.cell? ⟨(d_3.add ((x8_1).toNat * 13)).block, (d_3.add ((x8_1).toNat * 13)).off + 7, none⟩ = some (.int .i64 ((Y1 l0_1 x8_1).f4.f1)) ∧ w'.cell? ⟨(d_3.add ((x8_1).toNat * 13)).block, (d_3.add ((x8_1).toNat * 13)).off + 8, none⟩ = some (.int .i64 ((Y1 l0_1 x8_1).f4.f2)) ∧ w'.cell? ⟨(d_3.add ((x8_1).toNat * 13)).block, (d_3.add ((x8_1).toNat * 13)).off + 9, none⟩ = some (.int .i64 ((Y1 l0_1 x8_1).f4.f3)) ∧ w'.cell? ⟨(d_3.add ((x8_1).toNat * 13)).block, (d_3.add ((x8_1).toNat * 13)).off + 10, none⟩ = some (.int .i64 ((Y1 l0_1 x8_1).f4.f4)) ∧ w'.cell? ⟨(d_3.add ((x8_1).toNat * 13)).block, (d_3.add ((x8_1).toNat * 13)).off + 11, none⟩ = some (.int .i64 ((Y1 l0_1 x8_1).f4.f5)) ∧ w'.cell? ⟨(d_3.add ((x8_1).toNat * 13)).block, (d_3.add ((x8_1).toNat * 13)).off + 12, none⟩ = some (.int .i64 ((Y1 l0_1 x8_1).f4.f6)) ∧ w'.cell? (d_4.add ((x9_1).toNat * 13)) = some (.int .i64 ((Y1 l1_1 x9_1).f0.f0)) ∧ w'.cell? ⟨(d_4.add ((x9_1).toNat * 13)).block, (d_4.add ((x9_1).toNat * 13)).off + 1, none⟩ = some (.int .i64 ((Y1 l1_1 x9_1).f0.f1)) ∧ w'.cell? ⟨(d_4.add ((x9_1).toNat * 13)).block, (d_4.add ((x9_1).toNat * 13)).off + 2, none⟩ = some (.int .i64 ((Y1 l1_1 x9_1).f1)) ∧ w'.cell? ⟨(d_4.add ((x9_1).toNat * 13)).block, (d_4.add ((x9_1).toNat * 13)).off + 3, none⟩ = some (.int .i64 ((Y1 l1_1 x9_1).f2.f0)) ∧ w'.cell? ⟨(d_4.add ((x9_1).toNat * 13)).block, (d_4.add ((x9_1).toNat * 13)).off + 4, none⟩ = some (.int .i64 ((Y1 l1_1 x9_1).f2.f1)) ∧ w'.cell? ⟨(d_4.add ((x9_1).toNat * 13)).block, (d_4.add ((x9_1).toNat * 13)).off + 5, none⟩ = some (.bool ((Y1 l1_1 x9_1).f3)) ∧ w'.cell? ⟨(d_4.add ((x9_1).toNat * 13)).block, (d_4.add ((x9_1).toNat * 13)).off + 6, none⟩ = some (.int .i64 ((Y1 l1_1 x9_1).f4.f0)) ∧ w'.cell? ⟨(d_4.add ((x9_1).toNat * 13)).block, (d_4.add ((x9_1).toNat * 13)).off + 7, none⟩ = some (.int .i64 ((Y1 l1_1 x9_1).f4.f1)) ∧ w'.cell? ⟨(d_4.add ((x9_1).toNat * 13)).block, (d_4.add ((x9_1).toNat * 13)).off + 8, none⟩ = some (.int .i64 ((Y1 l1_1 x9_1).f4.f2)) ∧ w'.cell? ⟨(d_4.add ((x9_1).toNat * 13)).block, (d_4.add ((x9_1).toNat * 13)).off + 9, none⟩ = some (.int .i64 ((Y1 l1_1 x9_1).f4.f3)) ∧ w'.cell? ⟨(d_4.add ((x9_1).toNat * 13)).block, (d_4.add ((x9_1).toNat * 13)).off + 10, none⟩ = some (.int .i64 ((Y1 l1_1 x9_1).f4.f4)) ∧ w'.cell? ⟨(d_4.add ((x9_1).toNat * 13)).block, (d_4.add ((x9_1).toNat * 13)).off + 11, none⟩ = some (.int .i64 ((Y1 l1_1 x9_1).f4.f5)) ∧ w'.cell? ⟨(d_4.add ((x9_1).toNat * 13)).block, (d_4.add ((x9_1).toNat * 13)).off + 12, none⟩ = some (.int .i64 ((Y1 l1_1 x9_1).f4.f6))) (ds := []) #[false, false, false, false, false, false, false, false, false, false, false, false, false, false, false, false, false, false, false, false, false, false, false, false, false, false, false, false] (by kernel_rfl) rfl rfl ⟨(Y2 B_1.out 0).trans rfl, (Y2 B_1.out 1).trans rfl, (Y2 B_0.out 0).trans rfl, (Y2 B_0.out 1).trans rfl, (hbC HB q_2k), (hbC HB q_20), (hbC HB q_2y), (hbC HB q_2c), (hbC HB q_1y), (hbC HB q_25), (hbC HB q_27), (hbC HB q_2h), (hbC HB q_32), (hbC HB q_34), (hbC HB q_38), (hbC HB q_23), (hbC HB q_2i), (hbC HB q_2d), (hbC HB q_2z), (hbC HB q_30), (hbC HB q_31), (hbC HB q_2t), (hbC HB q_2v), (hbC HB q_2u), (hbC HB q_1v), (hbC HB q_22), (hbC HB q_2b), (hbC HB q_2q), (hbC HB q_2g), (hbC HB q_1z)⟩ (fun hHeld => ?_); refine YO Y9.tab10 Y9.bits10 (fun HT_ HW_ => ?_)
          generalize wc.drew = w42 at HO_799001 B_0 B_1 B_3 B_2 HB m_20 m_1u m_1g m_21 m_12 m_1x m_1z m_1r m_22 m_1n m_1b m_17 m_24 m_u m_x m_1k m_1j m_1f m_1v m_w m_q m_25 m_1a m_1e m_r m_s hHeld ⊢
          refine puA 0 47 (bs 28 1) ?_
          refine puA 1 48 (bs 28 3) ?_
          refine tkA 2 49 (bs 28 7) hHeld ?_
          refine puA 3 50 (bs 28 15) ?_
          refine puA 4 51 (bs 28 31) ?_
          refine puA 5 52 (bs 28 63) ?_
          refine puA 6 53 (bs 28 127) ?_
          refine puA 7 54 (bs 28 255) ?_
          refine tkA 8 55 (bs 28 511) hHeld ?_
          refine puA 9 56 (bs 28 1023) ?_
          refine puA 10 57 (bs 28 2047) ?_
          refine puA 11 58 (bs 28 4095) ?_
          refine puA 12 59 (bs 28 8191) ?_
          refine puA 14 61 (bs 28 24575) ?_
          refine puA 18 65 (bs 28 286719) ?_
          refine puA 20 67 (bs 28 1335295) ?_
          refine tkA 13 60 (bs 28 1343487) hHeld ?_
          refine puA 15 62 (bs 28 1376255) ?_
          refine puA 16 63 (bs 28 1441791) ?_
          refine tkA 17 64 (bs 28 1572863) hHeld ?_
          refine tkA 19 66 (bs 28 2097151) hHeld ?_
          refine puA 21 68 (bs 28 4194303) ?_
          refine puA 22 69 (bs 28 8388607) ?_
          refine tkA 23 70 (bs 28 16777215) hHeld ?_
          refine one_ (i := 24) (N := some 71) (bs 28 33554431) rfl rfl (YH HT_.out (by kernel_rfl)) (by decide) (fun K hK => ?_)
          refine goes_ Try.func75 (by kernel_rfl) rfl #[.agg #[.int .i64 ((Y1 l0_1 x8_1).f0.f0), .int .i64 ((Y1 l0_1 x8_1).f0.f1)], .agg #[.int .i64 ((Y1 l1_1 x9_1).f0.f0), .int .i64 ((Y1 l1_1 x9_1).f0.f1)]] (by rfl) rfl rfl (by (try simp only [List.map_toArray, List.map_cons, List.map_nil]); first | done | rfl | (simp only [List.length_drop, List.length_take]; rfl)) ?_
          with_reducible refine (YN.calls ((Y1 l0_1 x8_1).f0.f0) ((Y1 l0_1 x8_1).f0.f1) ((Y1 l1_1 x9_1).f0.f0) ((Y1 l1_1 x9_1).f0.f1) t_2 _ A41.out).mono ?_
          rintro e w43 ⟨rfl, hb⟩
          refine ⟨_, rfl, ?_⟩
          replace HO_799001 := Y0.mk (Kd.R_below (Kd.rU HO_799001.out) hb)
          replace B_0 := Y0.mk (Y3 (bU B_0.out) hb)
          replace B_1 := Y0.mk (Y3 (bU B_1.out) hb)
          replace B_3 := Y0.mk (Y3 (bU B_3.out) hb)
          replace B_2 := Y0.mk (Y3 (bU B_2.out) hb)
          replace HB := Y0.mk (Y5 (hU HB.out) hb)
          (try clear hb)
          (try clear hb2)
          (try clear hk)
          (try clear hi)
          refine hK.out _ _ ⟨(Y2 B_1.out 0).trans rfl, (Y2 B_1.out 1).trans rfl, (Y2 B_0.out 0).trans rfl, (Y2 B_0.out 1).trans rfl, (hbC HB q_2k), (hbC HB q_20), (hbC HB q_2y), (hbC HB q_2c), (hbC HB q_1y), (hbC HB q_25), (hbC HB q_27), (hbC HB q_2h), (hbC HB q_32), (hbC HB q_34), (hbC HB q_38), (hbC HB q_23), (hbC HB q_2i), (hbC HB q_2d), (hbC HB q_2z), (hbC HB q_30), (hbC HB q_31), (hbC HB q_2t), (hbC HB q_2v), (hbC HB q_2u), (hbC HB q_1v), (hbC HB q_22), (hbC HB q_2b), (hbC HB q_2q), (hbC HB q_2g), (hbC HB q_1z)⟩ (fun hHeld => ?_)
          clear hK K
          refine nmA 71 ?_
          refine puA 25 72 (bs 28 67108863) ?_
          refine puA 26 73 (bs 28 134217727) ?_
          refine puA 27 46 (bs 28 268435455) ?_
          refine done_ (Y17 HT_.out (by kernel_rfl)) ?_
          try go_wp2
          go_meet
          case rel => exact ⟨_, (t_2), reS, H', ⟨by have := HK1.out; have := HJ19.out; first | omega | exact Nat.le_refl _⟩, ⟨by (with_reducible repeat (first | apply Kd.R_alloc | apply Kd.R_drewN | apply Kd.R_drew)); exact HO_799001.out⟩, ⟨kB B_0⟩, ⟨kB B_1⟩, ⟨kB B_3⟩, ⟨kB B_2⟩, ⟨hU HB.out⟩⟩
         ·rw [if_neg c37] at H
          have c37b0 := decide_eq_false c37
          clear c37
          have H' := Y0.mk H
          clear H
          try go_wp2
          replace HO_799001 := Y0.mk (Kd.R_drew HO_799001.out)
          replace B_0 := Y0.mk (Y7 B_0.out)
          replace B_1 := Y0.mk (Y7 B_1.out)
          replace B_3 := Y0.mk (Y7 B_3.out)
          replace B_2 := Y0.mk (Y7 B_2.out)
          replace HB := Y0.mk (Yv HB.out)
          refine Y19 (n := 28) (S := fun w' => w'.cell? ⟨g_1, 0, none⟩ = some (.int .i64 a1_0) ∧ w'.cell? ⟨g_1, 1, none⟩ = some (.slice A1_1 l1_1.length c1_1) ∧ w'.cell? ⟨g_0, 0, none⟩ = some (.int .i64 a0_0) ∧ w'.cell? ⟨g_0, 1, none⟩ = some (.slice A0_1 l0_1.length c0_1)) (ds := []) #[false, false, false, false, false, false, false, false, false, false, false, false, false, false, false, false, false, false, false, false, false, false, false, false, false, false, false, false] (by kernel_rfl) rfl rfl ⟨(Y2 B_1.out 0).trans rfl, (Y2 B_1.out 1).trans rfl, (Y2 B_0.out 0).trans rfl, (Y2 B_0.out 1).trans rfl⟩ (fun hHeld => ?_); refine YO Y9.tab10 Y9.bits10 (fun HT_ HW_ => ?_)
          generalize wc.drew = w44 at HO_799001 B_0 B_1 B_3 B_2 HB hHeld ⊢
          refine puA 0 47 (bs 28 1) ?_
          refine puA 1 48 (bs 28 3) ?_
          refine tkA 2 49 (bs 28 7) hHeld ?_
          refine puA 3 50 (bs 28 15) ?_
          refine puA 4 51 (bs 28 31) ?_
          refine puA 5 52 (bs 28 63) ?_
          refine puA 6 53 (bs 28 127) ?_
          refine puA 7 54 (bs 28 255) ?_
          refine tkA 8 55 (bs 28 511) hHeld ?_
          refine puA 9 56 (bs 28 1023) ?_
          refine puA 10 57 (bs 28 2047) ?_
          refine puA 11 58 (bs 28 4095) ?_
          refine skA 12 59 (bs 28 8191) ?_
          refine skA 13 60 (bs 28 16383) ?_
          refine skA 14 61 (bs 28 32767) ?_
          refine skA 15 62 (bs 28 65535) ?_
          refine skA 16 63 (bs 28 131071) ?_
          refine skA 17 64 (bs 28 262143) ?_
          refine skA 18 65 (bs 28 524287) ?_
          refine skA 19 66 (bs 28 1048575) ?_
          refine skA 20 67 (bs 28 2097151) ?_
          refine skA 21 68 (bs 28 4194303) ?_
          refine skA 22 69 (bs 28 8388607) ?_
          refine skA 23 70 (bs 28 16777215) ?_
          refine skA 24 71 (bs 28 33554431) ?_
          refine puA 25 72 (bs 28 67108863) ?_
          refine puA 26 73 (bs 28 134217727) ?_
          refine puA 27 46 (bs 28 268435455) ?_
          refine done_ (Y17 HT_.out (by kernel_rfl)) ?_
          try go_wp2
          go_meet
          case rel => exact ⟨_, (false), reS, H', ⟨by have := HK1.out; have := HJ19.out; first | omega | exact Nat.le_refl _⟩, ⟨by (with_reducible repeat (first | apply Kd.R_alloc | apply Kd.R_drewN | apply Kd.R_drew)); exact HO_799001.out⟩, ⟨kB B_0⟩, ⟨kB B_1⟩, ⟨kB B_3⟩, ⟨kB B_2⟩, ⟨hU HB.out⟩⟩
       case rest =>
        clear HC34
        try clear c1
        try clear p2
        try clear c3
        try clear c4
        try clear c7
        try clear p7
        try clear q7
        try clear hx7
        try clear p8
        try clear q8
        try clear hx8
        try clear c35
        try clear c35b0
        try clear c35b1
        try clear c37
        try clear c37b0
        try clear c38
        try clear c38b0
        try clear c39
        try clear c39b0
        try clear c40
        try clear c40b0
        try clear m_20
        try clear m_1u
        try clear m_1g
        try clear m_21
        try clear m_12
        try clear m_1x
        try clear m_1z
        try clear m_1r
        try clear m_22
        try clear m_1n
        try clear m_1b
        try clear m_17
        try clear m_24
        try clear m_u
        try clear m_x
        try clear m_1k
        try clear m_1j
        try clear m_1f
        try clear m_1v
        try clear m_w
        try clear m_q
        try clear m_25
        try clear m_1a
        try clear m_1e
        try clear m_r
        try clear m_s
        try clear p799
        try clear p800
        try clear q799
        try clear q800
        obtain ⟨kq, x46_33, rfl, HA, HJ33, HO_799001, B_0, B_1, B_3, B_2, HB⟩ := hcut
        cases kq with
        | zero => exact absurd HA.out (by simp [Y9.j2])
        | succ kj33 =>
         have H := HA.out
         clear HA
         simp only [Y9.j2] at H
         by_cases c45 : x46_33 = true
         ·subst c45
          rw [if_pos rfl] at H
          obtain ⟨c46, H⟩ := iS H
          have c46b0 := decide_eq_true c46
          clear c46
          obtain ⟨c47, H⟩ := iS H
          have c47b0 := decide_eq_true c47
          clear c47
          obtain ⟨c48, H⟩ := iS H
          have LMc48 := Y0.mk c48
          clear c48
          obtain ⟨y803, hy803⟩ : ∃ y_ : List (S30), y_ = (x799001_1 ++ [(⟨(⟨(Y1 l0_1 x8_1).f0.f0, (Y1 l0_1 x8_1).f0.f1⟩ : S26), (Y1 l0_1 x8_1).f1, (⟨(Y1 l0_1 x8_1).f2.f0, (Y1 l0_1 x8_1).f2.f1⟩ : S26), (Y1 l0_1 x8_1).f3, (⟨(Y1 l0_1 x8_1).f4.f0, (Y1 l0_1 x8_1).f4.f1, (Y1 l0_1 x8_1).f4.f2, (Y1 l0_1 x8_1).f4.f3, (Y1 l0_1 x8_1).f4.f4, (Y1 l0_1 x8_1).f4.f5, (Y1 l0_1 x8_1).f4.f6⟩ : S28)⟩ : S30)]) := ⟨_, rfl⟩
          replace H : (Y9.l0 kj33 (wrap64 (x8_1 + 1)) x9_1 a0_0 l0_1 a1_0 l1_1 a0_0 y803) = some (r1, r2, r3) := by first | (rw [hy803]; with_reducible exact H) | (have H2_ := (Option.bind_some _ _).symm.trans H; rw [hy803]; with_reducible exact H2_) | (have H2_ := (Option.bind_some _ _).symm.trans H; with_reducible exact H2_) | with_reducible exact H | (rw [hy803]; exact H) | exact H
          have Ny803 := Y0.mk hy803
          clear hy803
          have H' := Y0.mk H
          clear H
          try go_wp2
          replace HO_799001 := Y0.mk (Kd.R_drew HO_799001.out)
          replace B_0 := Y0.mk (Y7 B_0.out)
          replace B_1 := Y0.mk (Y7 B_1.out)
          replace B_3 := Y0.mk (Y7 B_3.out)
          replace B_2 := Y0.mk (Y7 B_2.out)
          replace HB := Y0.mk (Yv HB.out)
          have p802 : 0 ≤ (x8_1 : Int) := of_decide_eq_true (by first | (with_reducible assumption) | assumption)
          have q802 : x8_1 < (l0_1.length : Int) := of_decide_eq_true (by first | (with_reducible assumption) | assumption)
          obtain ⟨d_5, e802, m_2x, m_38, m_2u, m_2y, m_34, m_2q, m_2h, m_30, m_33, m_26, m_35, m_32, m_2b⟩ := Y14 HR0_1.out x8_1 p802 q802
          have q_s := m_2b
          have q_10 := m_32
          have q_x := m_35
          have q_u := m_26
          have q_9 := m_33
          have q_o := m_30
          have q_f := m_2h
          have q_4 := m_2q
          have q_a := m_34
          have q_0 := m_2y
          have q_p := m_2u
          have q_q := m_38
          have q_y := m_2x
          cases e802
          replace m_2x := hbC HB m_2x
          replace m_38 := hbC HB m_38
          replace m_2u := hbC HB m_2u
          replace m_2y := hbC HB m_2y
          replace m_34 := hbC HB m_34
          replace m_2q := hbC HB m_2q
          replace m_2h := hbC HB m_2h
          replace m_30 := hbC HB m_30
          replace m_33 := hbC HB m_33
          replace m_26 := hbC HB m_26
          replace m_35 := hbC HB m_35
          replace m_32 := hbC HB m_32
          replace m_2b := hbC HB m_2b
          replace p802 := eq_true p802
          replace q802 := eq_true q802
          refine Y19 (n := 11) (S := fun w' => w'.cell? ⟨g_2, 0, none⟩ = some (.int .i64 a0_0) ∧ w'.cell? ⟨g_2, 1, none⟩ = some (u799001) ∧ w'.cell? ⟨g_0, 0, none⟩ = some (.int .i64 a0_0) ∧ w'.cell? ⟨g_0, 1, none⟩ = some (.slice (some d_5) l0_1.length c0_1) ∧ w'.cell? (d_5.add ((x8_1).toNat * 13)) = some (.int .i64 ((Y1 l0_1 x8_1).f0.f0)) ∧ w'.cell? ⟨(d_5.add ((x8_1).toNat * 13)).block, (d_5.add ((x8_1).toNat * 13)).off + 1, none⟩ = some (.int .i64 ((Y1 l0_1 x8_1).f0.f1)) ∧ w'.cell? ⟨(d_5.add ((x8_1).toNat * 13)).block, (d_5.add ((x8_1).toNat * 13)).off + 2, none⟩ = some (.int .i64 ((Y1 l0_1 x8_1).f1)) ∧ w'.cell? ⟨(d_5.add ((x8_1).toNat * 13)).block, (d_5.add ((x8_1).toNat * 13)).off + 3, none⟩ = some (.int .i64 ((Y1 l0_1 x8_1).f2.f0)) ∧ w'.cell? ⟨(d_5.add ((x8_1).toNat * 13)).block, (d_5.add ((x8_1).toNat * 13)).off + 4, none⟩ = some (.int .i64 ((Y1 l0_1 x8_1).f2.f1)) ∧ w'.cell? ⟨(d_5.add ((x8_1).toNat * 13)).block, (d_5.add ((x8_1).toNat * 13)).off + 5, none⟩ = some (.bool ((Y1 l0_1 x8_1).f3)) ∧ w'.cell? ⟨(d_5.add ((x8_1).toNat * 13)).block, (d_5.add ((x8_1).toNat * 13)).off + 6, none⟩ = some (.int .i64 ((Y1 l0_1 x8_1).f4.f0)) ∧ w'.cell? ⟨(d_5.add ((x8_1).toNat * 13)).block, (d_5.add ((x8_1).toNat * 13)).off + 7, none⟩ = some (.int .i64 ((Y1 l0_1 x8_1).f4.f1)) ∧ w'.cell? ⟨(d_5.add ((x8_1).toNat * 13)).block, (d_5.add ((x8_1).toNat * 13)).off + 8, none⟩ = some (.int .i64 ((Y1 l0_1 x8_1).f4.f2)) ∧ w'.cell? ⟨(d_5.add ((x8_1).toNat * 13)).block, (d_5.add ((x8_1).toNat * 13)).off + 9, none⟩ = some (.int .i64 ((Y1 l0_1 x8_1).f4.f3)) ∧ w'.cell? ⟨(d_5.add ((x8_1).toNat * 13)).block, (d_5.add ((x8_1).toNat * 13)).off + 10, none⟩ = some (.int .i64 ((Y1 l0_1 x8_1).f4.f4)) ∧ w'.cell? ⟨(d_5.add ((x8_1).toNat * 13)).block, (d_5.add ((x8_1).toNat * 13)).off + 11, none⟩ = some (.int .i64 ((Y1 l0_1 x8_1).f4.f5)) ∧ w'.cell? ⟨(d_5.add ((x8_1).toNat * 13)).block, (d_5.add ((x8_1).toNat * 13)).off + 12, none⟩ = some (.int .i64 ((Y1 l0_1 x8_1).f4.f6))) (ds := [10]) #[false, false, false, false, false, false, false, false, false, false, false] (by kernel_rfl) rfl rfl ⟨(Y2 B_2.out 0).trans rfl, (Y2 B_2.out 1).trans rfl, (Y2 B_0.out 0).trans rfl, (Y2 B_0.out 1).trans rfl, (hbC HB q_y), (hbC HB q_q), (hbC HB q_p), (hbC HB q_0), (hbC HB q_a), (hbC HB q_4), (hbC HB q_f), (hbC HB q_o), (hbC HB q_9), (hbC HB q_u), (hbC HB q_x), (hbC HB q_10), (hbC HB q_s)⟩ (fun hHeld => ?_); refine YO Y9.tab11 Y9.bits11 (fun HT_ HW_ => ?_)
          generalize wc.drew = w49 at HO_799001 B_0 B_1 B_3 B_2 HB m_2x m_38 m_35 m_32 m_2b m_2u m_2y m_34 m_2q m_2h m_30 m_33 m_26 hHeld ⊢
          refine puA 0 74 (bs 11 1) ?_
          refine puA 2 76 (bs 11 5) ?_
          refine puA 4 78 (bs 11 21) ?_
          refine tkA 1 75 (bs 11 23) hHeld ?_
          refine tkA 3 77 (bs 11 31) hHeld ?_
          refine puA 5 79 (bs 11 63) ?_
          refine tkA 6 80 (bs 11 127) hHeld ?_
          refine one_ (i := 7) (N := some 81) (bs 11 255) rfl rfl (YH HT_.out (by kernel_rfl)) (by decide) (fun K hK => ?_)
          refine Y3v (w1 := ?_) (v := ?_) (by rfl) rfl ?_ ?_
          rotate_left 2
          ·go_simp
           constructor
           ·rfl
           ·rfl
          refine hK.out _ _ ⟨(Y2 (Y6 B_2.out _) 0).trans rfl, (Y2 (Y6 B_2.out _) 1).trans rfl, (Y2 (Y6 B_0.out _) 0).trans rfl, (Y2 (Y6 B_0.out _) 1).trans rfl, (World.cell?_alloc_lt _ _ _ (World.block_lt_of_cell? _ _ ((hbC HB q_y)))).trans ((hbC HB q_y)), (World.cell?_alloc_lt _ _ _ (World.block_lt_of_cell? _ _ ((hbC HB q_q)))).trans ((hbC HB q_q)), (World.cell?_alloc_lt _ _ _ (World.block_lt_of_cell? _ _ ((hbC HB q_p)))).trans ((hbC HB q_p)), (World.cell?_alloc_lt _ _ _ (World.block_lt_of_cell? _ _ ((hbC HB q_0)))).trans ((hbC HB q_0)), (World.cell?_alloc_lt _ _ _ (World.block_lt_of_cell? _ _ ((hbC HB q_a)))).trans ((hbC HB q_a)), (World.cell?_alloc_lt _ _ _ (World.block_lt_of_cell? _ _ ((hbC HB q_4)))).trans ((hbC HB q_4)), (World.cell?_alloc_lt _ _ _ (World.block_lt_of_cell? _ _ ((hbC HB q_f)))).trans ((hbC HB q_f)), (World.cell?_alloc_lt _ _ _ (World.block_lt_of_cell? _ _ ((hbC HB q_o)))).trans ((hbC HB q_o)), (World.cell?_alloc_lt _ _ _ (World.block_lt_of_cell? _ _ ((hbC HB q_9)))).trans ((hbC HB q_9)), (World.cell?_alloc_lt _ _ _ (World.block_lt_of_cell? _ _ ((hbC HB q_u)))).trans ((hbC HB q_u)), (World.cell?_alloc_lt _ _ _ (World.block_lt_of_cell? _ _ ((hbC HB q_x)))).trans ((hbC HB q_x)), (World.cell?_alloc_lt _ _ _ (World.block_lt_of_cell? _ _ ((hbC HB q_10)))).trans ((hbC HB q_10)), (World.cell?_alloc_lt _ _ _ (World.block_lt_of_cell? _ _ ((hbC HB q_s)))).trans ((hbC HB q_s))⟩ (fun hHeld => ?_)
          clear hK K
          refine nmA 81 ?_
          refine one_ (i := 8) (N := some 82) (bs 11 511) rfl rfl (YH HT_.out (by kernel_rfl)) (by decide) (fun K hK => ?_)
          refine Kd.R_append_step k30 (w0 := w) w.heap.size (by rfl) (.tmp 75) (.tmp 81) 22 30 (.agg #[(.int .i64 0), (.int .i64 0), (.int .i64 0), (.int .i64 0), (.int .i64 0), (.bool false), (.int .i64 0), (.int .i64 0), (.int .i64 0), (.int .i64 0), (.int .i64 0), (.int .i64 0), (.int .i64 0)]) 104 rfl Try.underlying22 Y1H rfl (by decide) (by omega) u799001 x799001_1 (⟨(⟨(Y1 l0_1 x8_1).f0.f0, (Y1 l0_1 x8_1).f0.f1⟩ : S26), (Y1 l0_1 x8_1).f1, (⟨(Y1 l0_1 x8_1).f2.f0, (Y1 l0_1 x8_1).f2.f1⟩ : S26), (Y1 l0_1 x8_1).f3, (⟨(Y1 l0_1 x8_1).f4.f0, (Y1 l0_1 x8_1).f4.f1, (Y1 l0_1 x8_1).f4.f2, (Y1 l0_1 x8_1).f4.f3, (Y1 l0_1 x8_1).f4.f4, (Y1 l0_1 x8_1).f4.f5, (Y1 l0_1 x8_1).f4.f6⟩ : S28)⟩ : S30) [.int .i64 ((Y1 l0_1 x8_1).f0.f0), .int .i64 ((Y1 l0_1 x8_1).f0.f1), .int .i64 ((Y1 l0_1 x8_1).f1), .int .i64 ((Y1 l0_1 x8_1).f2.f0), .int .i64 ((Y1 l0_1 x8_1).f2.f1), .bool ((Y1 l0_1 x8_1).f3), .int .i64 ((Y1 l0_1 x8_1).f4.f0), .int .i64 ((Y1 l0_1 x8_1).f4.f1), .int .i64 ((Y1 l0_1 x8_1).f4.f2), .int .i64 ((Y1 l0_1 x8_1).f4.f3), .int .i64 ((Y1 l0_1 x8_1).f4.f4), .int .i64 ((Y1 l0_1 x8_1).f4.f5), .int .i64 ((Y1 l0_1 x8_1).f4.f6)] (fun _ => True) (fun _ => False) rfl rfl ?aP (fun _ hk => hk.elim) ?aF ?aO ?aB ?aS ?aL ?_
          (case aP => exact Y1h _ _ _ (⟨(⟨(Y1 l0_1 x8_1).f0.f0, (Y1 l0_1 x8_1).f0.f1⟩ : S26), (Y1 l0_1 x8_1).f1, (⟨(Y1 l0_1 x8_1).f2.f0, (Y1 l0_1 x8_1).f2.f1⟩ : S26), (Y1 l0_1 x8_1).f3, (⟨(Y1 l0_1 x8_1).f4.f0, (Y1 l0_1 x8_1).f4.f1, (Y1 l0_1 x8_1).f4.f2, (Y1 l0_1 x8_1).f4.f3, (Y1 l0_1 x8_1).f4.f4, (Y1 l0_1 x8_1).f4.f5, (Y1 l0_1 x8_1).f4.f6⟩ : S28)⟩ : S30))
          (case aB => exact (hU HB.out))
          (case aF => exact (fun _ _ => trivial))
          (case aO => exact (Kd.rU HO_799001.out))
          (case aS => exact (Yh (hU HB.out)))
          (case aL => have := LMc48.out; omega)
          intro v_2 w50 ho hb hg hat
          rw [← Ny803.out] at ho
          have n0_ := Y0.mk (YC (bU B_0.out) hg (Kd.R_ne HO_799001.out B_0.out (by decide)))
          have n1_ := Y0.mk (YC (bU B_1.out) hg (Kd.R_ne HO_799001.out B_1.out (by decide)))
          have n2_ := Y0.mk (YC (bU B_3.out) hg (Kd.R_ne HO_799001.out B_3.out (by decide)))
          have n3_ := Y0.mk (YC (bU B_2.out) hg (Kd.R_ne HO_799001.out B_2.out (by decide)))
          have n4_ := Y0.mk (hb)
          have n5_ := Y0.mk (ho)
          clear B_0
          clear B_1
          clear B_3
          clear B_2
          clear HB
          clear HO_799001
          have B_0 := n0_
          have B_1 := n1_
          have B_3 := n2_
          have B_2 := n3_
          have HB := n4_
          have O_1 := n5_
          clear n0_ n1_ n2_ n3_ n4_ n5_
          clear ho hb hg hat
          obtain ⟨Ao51, co51, eo51⟩ := Kd.R_slice O_1.out
          (first | subst eo51 | (injection eo51 with f1_ f2_ f3_; have f4_ := f1_.symm; have f5_ := f3_.symm; clear f1_ f2_ f3_; subst f4_; subst f5_))
          refine hK.out _ _ ⟨(Y2 B_2.out 0).trans rfl, (Y2 B_2.out 1).trans rfl, (Y2 B_0.out 0).trans rfl, (Y2 B_0.out 1).trans rfl, (hbC HB q_y), (hbC HB q_q), (hbC HB q_p), (hbC HB q_0), (hbC HB q_a), (hbC HB q_4), (hbC HB q_f), (hbC HB q_o), (hbC HB q_9), (hbC HB q_u), (hbC HB q_x), (hbC HB q_10), (hbC HB q_s)⟩ (fun hHeld => ?_)
          clear hK K
          refine nmA 82 ?_
          refine puA 9 83 (bs 11 1023) ?_
          refine last_ (i := 10) (N := none) #[true, true, true, true, true, true, true, true, true, true, true] rfl rfl (YH HT_.out (by kernel_rfl)) (by decide) (fun K hK => ?_)
          have hs52 : w50.cell? ⟨g_2, 1, none⟩ = some (u799001) := (Y2 B_2.out 1).trans rfl
          have hfs52 := Y4 B_2.out 1
          have hns52_0 := N_0.out
          have hns52_1 := N_2.out
          have hns52_2 := N_1.out
          have hms52_0 := N_5.out
          have hms52_1 := N_7.out
          have hms52_2 := N_6.out
          refine skip_ (w1 := ?_) (by rfl) rfl ?_ ?_
          rotate_left
          ·go_simp
           rfl
          refine hK.out _ _ ?_
          clear hK K
          refine done_ (Y17 HT_.out (by kernel_rfl)) ?_
          try go_wp2
          go_roundg kj33
          case measure => have := HK1.out; have := HJ19.out; have := HJ33.out; omega
          case rel => exact ⟨(wrap64 (x8_1 + 1)), (x9_1), (x797000_1), (y803), (.slice Ao51 y803.length co51), reS, reS, H', ⟨by have := HK1.out; have := HJ19.out; have := HJ33.out; omega⟩, ⟨by (with_reducible repeat (first | apply Kd.R_alloc | apply Kd.R_drewN | apply Kd.R_drew)); exact Kd.R_mono (Kd.R_far (p := ⟨g_2, 1, none⟩) (Kd.R_types O_1.out B_2.out (by decide)) (fun _ hk => hk.2) (.slice Ao51 y803.length co51)) (fun _ hk => trivial)⟩, ⟨by (with_reducible repeat (first | refine Y8 ?_ _ | refine Y7 ?_ | refine Y6 ?_ _)); refine (Below.heap_setCell _ ⟨_, _, none⟩ _ _ N_0.out).trans ?_; (with_reducible repeat (first | refine Y8 ?_ _ | refine Y7 ?_ | refine Y6 ?_ _)); exact B_0.out⟩, ⟨by (with_reducible repeat (first | refine Y8 ?_ _ | refine Y7 ?_ | refine Y6 ?_ _)); refine (Below.heap_setCell _ ⟨_, _, none⟩ _ _ N_2.out).trans ?_; (with_reducible repeat (first | refine Y8 ?_ _ | refine Y7 ?_ | refine Y6 ?_ _)); exact B_1.out⟩, ⟨by (with_reducible repeat (first | refine Y8 ?_ _ | refine Y7 ?_ | refine Y6 ?_ _)); refine (Below.heap_setCell _ ⟨_, _, none⟩ _ _ N_1.out).trans ?_; (with_reducible repeat (first | refine Y8 ?_ _ | refine Y7 ?_ | refine Y6 ?_ _)); exact B_3.out⟩, ⟨by (with_reducible repeat (first | refine Y8 ?_ _ | refine Y7 ?_ | refine Y6 ?_ _)); refine Yn (cs := #[.int .i64 a0_0, u799001]) ?_ 1 _ rfl; (with_reducible repeat (first | refine Y8 ?_ _ | refine Y7 ?_ | refine Y6 ?_ _)); exact B_2.out⟩, ⟨hU HB.out⟩⟩
         ·replace c45 := Bool.eq_false_iff.mpr c45
          subst c45
          rw [if_neg (show ¬ (false = true) by decide)] at H
          have HC53 := Y0.mk H
          clear H
          go_upto_region 13 with (fail)
          go_cut [86] (fun v86 wc => ∃ (kq : Nat) (x86_52 : Bool), v86 = .bool x86_52 ∧ Y0 (Y9.j3 kq x8_1 x9_1 x86_52 a0_0 l0_1 a1_0 l1_1 a0_0 x799001_1 = some (r1, r2, r3)) ∧ Y0 (kq ≤ kj33) ∧ Y0 (Kd.R k30 30 wc w.heap.size (fun _ => True) u799001 x799001_1) ∧ Y0 (wc.heap[g_0]? = some (.cells #[.int .i64 a0_0, (.slice A0_1 l0_1.length c0_1)] 24 (0, 0))) ∧ Y0 (wc.heap[g_1]? = some (.cells #[.int .i64 a1_0, (.slice A1_1 l1_1.length c1_1)] 24 (0, 0))) ∧ Y0 (wc.heap[g_3]? = some (.cells #[.int .i64 x797000_1, (.slice none 0 0)] 24 (0, 0))) ∧ Y0 (wc.heap[g_2]? = some (.cells #[.int .i64 a0_0, u799001] 24 (0, 0))) ∧ Y0 (Below w.heap.size w wc))
          case first =>
           have H := HC53.out
           clear HC53
           by_cases c54 : x8_1 = (l0_1.length : Int)
           ·rw [if_pos c54] at H
            have c54b0 := bqT c54
            have c54b1 := bnF c54
            clear c54
            (first | rw [c54b0] | (simp only [i64_w, i32_w]; rw [c54b0]) | skip)
            have H' := Y0.mk H
            clear H
            try go_wp2
            replace HO_799001 := Y0.mk (Kd.R_drew HO_799001.out)
            replace B_0 := Y0.mk (Y7 B_0.out)
            replace B_1 := Y0.mk (Y7 B_1.out)
            replace B_3 := Y0.mk (Y7 B_3.out)
            replace B_2 := Y0.mk (Y7 B_2.out)
            replace HB := Y0.mk (Yv HB.out)
            refine Y19 (n := 21) (S := fun w' => w'.cell? ⟨g_0, 0, none⟩ = some (.int .i64 a0_0) ∧ w'.cell? ⟨g_0, 1, none⟩ = some (.slice A0_1 l0_1.length c0_1)) (ds := []) #[false, false, false, false, false, false, false, false, false, false, false, false, false, false, false, false, false, false, false, false, false] (by kernel_rfl) rfl rfl ⟨(Y2 B_0.out 0).trans rfl, (Y2 B_0.out 1).trans rfl⟩ (fun hHeld => ?_); refine YO Y9.tab13 Y9.bits13 (fun HT_ HW_ => ?_)
            generalize wc.drew = w55 at HO_799001 B_0 B_1 B_3 B_2 HB hHeld ⊢
            refine puA 0 87 (bs 21 1) ?_
            refine puA 1 88 (bs 21 3) ?_
            refine tkA 2 89 (bs 21 7) hHeld ?_
            refine puA 3 90 (bs 21 15) ?_
            refine puA 4 91 (bs 21 31) ?_
            refine puA 5 92 (bs 21 63) ?_
            refine skA 6 93 (bs 21 127) ?_
            refine skA 7 94 (bs 21 255) ?_
            refine skA 8 95 (bs 21 511) ?_
            refine skA 9 96 (bs 21 1023) ?_
            refine skA 10 97 (bs 21 2047) ?_
            refine skA 11 98 (bs 21 4095) ?_
            refine skA 12 99 (bs 21 8191) ?_
            refine skA 13 100 (bs 21 16383) ?_
            refine skA 14 101 (bs 21 32767) ?_
            refine skA 15 102 (bs 21 65535) ?_
            refine skA 16 103 (bs 21 131071) ?_
            refine skA 17 104 (bs 21 262143) ?_
            refine skA 18 105 (bs 21 524287) ?_
            refine puA 19 106 (bs 21 1048575) ?_
            refine puA 20 86 (bs 21 2097151) ?_
            refine done_ (Y17 HT_.out (by kernel_rfl)) ?_
            try go_wp2
            go_meet
            case rel => exact ⟨_, (true), reS, H', ⟨by have := HK1.out; have := HJ19.out; have := HJ33.out; first | omega | exact Nat.le_refl _⟩, ⟨by (with_reducible repeat (first | apply Kd.R_alloc | apply Kd.R_drewN | apply Kd.R_drew)); exact HO_799001.out⟩, ⟨kB B_0⟩, ⟨kB B_1⟩, ⟨kB B_3⟩, ⟨kB B_2⟩, ⟨hU HB.out⟩⟩
           ·rw [if_neg c54] at H
            have c54b0 := bqF c54
            have c54b1 := bnT c54
            (first | rw [c54b0] | (simp only [i64_w, i32_w]; rw [c54b0]) | skip)
            obtain ⟨c56, H⟩ := iS H
            have c56b0 := decide_eq_true c56
            clear c56
            obtain ⟨c57, H⟩ := iS H
            have c57b0 := decide_eq_true c57
            clear c57
            obtain ⟨c58, H⟩ := iS H
            have c58b0 := decide_eq_true c58
            clear c58
            obtain ⟨c59, H⟩ := iS H
            have c59b0 := decide_eq_true c59
            clear c59
            obtain ⟨t_1, A600, H⟩ := bS H
            replace H : (Y9.j3 kj33 x8_1 x9_1 t_1 a0_0 l0_1 a1_0 l1_1 a0_0 x799001_1) = some (r1, r2, r3) := H
            have A60 := Y0.mk A600
            clear A600
            have H' := Y0.mk H
            clear H
            try go_wp2
            replace HO_799001 := Y0.mk (Kd.R_drew HO_799001.out)
            replace B_0 := Y0.mk (Y7 B_0.out)
            replace B_1 := Y0.mk (Y7 B_1.out)
            replace B_3 := Y0.mk (Y7 B_3.out)
            replace B_2 := Y0.mk (Y7 B_2.out)
            replace HB := Y0.mk (Yv HB.out)
            have p806 : 0 ≤ (x9_1 : Int) := of_decide_eq_true (by first | (with_reducible assumption) | assumption)
            have q806 : x9_1 < (l1_1.length : Int) := of_decide_eq_true (by first | (with_reducible assumption) | assumption)
            obtain ⟨d_2, e806, m_16, m_1c, m_10, m_1q, m_t, m_14, m_18, m_15, m_13, m_19, m_23, m_1m, m_1i⟩ := Y14 HR1_1.out x9_1 p806 q806
            have q_2r := m_1i
            have q_21 := m_1m
            have q_1w := m_23
            have q_1x := m_19
            have q_2a := m_13
            have q_2e := m_15
            have q_24 := m_18
            have q_29 := m_14
            have q_2f := m_t
            have q_2x := m_1q
            have q_1u := m_10
            have q_26 := m_1c
            have q_2l := m_16
            cases e806
            replace m_16 := hbC HB m_16
            replace m_1c := hbC HB m_1c
            replace m_10 := hbC HB m_10
            replace m_1q := hbC HB m_1q
            replace m_t := hbC HB m_t
            replace m_14 := hbC HB m_14
            replace m_18 := hbC HB m_18
            replace m_15 := hbC HB m_15
            replace m_13 := hbC HB m_13
            replace m_19 := hbC HB m_19
            replace m_23 := hbC HB m_23
            replace m_1m := hbC HB m_1m
            replace m_1i := hbC HB m_1i
            replace p806 := eq_true p806
            replace q806 := eq_true q806
            have p807 : 0 ≤ (x8_1 : Int) := of_decide_eq_true (by first | (with_reducible assumption) | assumption)
            have q807 : x8_1 < (l0_1.length : Int) := of_decide_eq_true (by first | (with_reducible assumption) | assumption)
            obtain ⟨d_7, e807, m_1t, m_11, m_y, m_v, m_1d, m_1h, m_1s, m_z, m_1o, m_1l, m_1w, m_1y, m_1p⟩ := Y14 HR0_1.out x8_1 p807 q807
            have q_2p := m_1p
            have q_1t := m_1y
            have q_2o := m_1w
            have q_33 := m_1l
            have q_37 := m_1o
            have q_2m := m_z
            have q_2w := m_1s
            have q_28 := m_1h
            have q_35 := m_1d
            have q_36 := m_v
            have q_2s := m_y
            have q_2j := m_11
            have q_2n := m_1t
            cases e807
            replace m_1t := hbC HB m_1t
            replace m_11 := hbC HB m_11
            replace m_y := hbC HB m_y
            replace m_v := hbC HB m_v
            replace m_1d := hbC HB m_1d
            replace m_1h := hbC HB m_1h
            replace m_1s := hbC HB m_1s
            replace m_z := hbC HB m_z
            replace m_1o := hbC HB m_1o
            replace m_1l := hbC HB m_1l
            replace m_1w := hbC HB m_1w
            replace m_1y := hbC HB m_1y
            replace m_1p := hbC HB m_1p
            replace p807 := eq_true p807
            replace q807 := eq_true q807
            refine Y19 (n := 21) (S := fun w' => w'.cell? ⟨g_0, 0, none⟩ = some (.int .i64 a0_0) ∧ w'.cell? ⟨g_0, 1, none⟩ = some (.slice (some d_7) l0_1.length c0_1) ∧ w'.cell? ⟨g_1, 0, none⟩ = some (.int .i64 a1_0) ∧ w'.cell? ⟨g_1, 1, none⟩ = some (.slice (some d_2) l1_1.length c1_1) ∧ w'.cell? (d_2.add ((x9_1).toNat * 13)) = some (.int .i64 ((Y1 l1_1 x9_1).f0.f0)) ∧ w'.cell? ⟨(d_2.add ((x9_1).toNat * 13)).block, (d_2.add ((x9_1).toNat * 13)).off + 1, none⟩ = some (.int .i64 ((Y1 l1_1 x9_1).f0.f1)) ∧ w'.cell? ⟨(d_2.add ((x9_1).toNat * 13)).block, (d_2.add ((x9_1).toNat * 13)).off + 2, none⟩ = some (.int .i64 ((Y1 l1_1 x9_1).f1)) ∧ w'.cell? ⟨(d_2.add ((x9_1).toNat * 13)).block, (d_2.add ((x9_1).toNat * 13)).off + 3, none⟩ = some (.int .i64 ((Y1 l1_1 x9_1).f2.f0)) ∧ w'.cell? ⟨(d_2.add ((x9_1).toNat * 13)).block, (d_2.add ((x9_1).toNat * 13)).off + 4, none⟩ = some (.int .i64 ((Y1 l1_1 x9_1).f2.f1)) ∧ w'.cell? ⟨(d_2.add ((x9_1).toNat * 13)).block, (d_2.add ((x9_1).toNat * 13)).off + 5, none⟩ = some (.bool ((Y1 l1_1 x9_1).f3)) ∧ w'.cell? ⟨(d_2.add ((x9_1).toNat * 13)).block, (d_2.add ((x9_1).toNat * 13)).off + 6, none⟩ = some (.int .i64 ((Y1 l1_1 x9_1).f4.f0)) ∧ w'.cell? ⟨(d_2.add ((x9_1).toNat * 13)).block, (d_2.add ((x9_1).toNat * 13)).off + 7, none⟩ = some (.int .i64 ((Y1 l1_1 x9_1).f4.f1)) ∧ w'.cell? ⟨(d_2.add ((x9_1).toNat * 13)).block, (d_2.add ((x9_1).toNat * 13)).off + 8, none⟩ = some (.int .i64 ((Y1 l1_1 x9_1).f4.f2)) ∧ w'.cell? ⟨(d_2.add ((x9_1).toNat * 13)).block, (d_2.add ((x9_1).toNat * 13)).off + 9, none⟩ = some (.int .i64 ((Y1 l1_1 x9_1).f4.f3)) ∧ w'.cell? ⟨(d_2.add ((x9_1).toNat * 13)).block, (d_2.add ((x9_1).toNat * 13)).off + 10, none⟩ = some (.int .i64 ((Y1 l1_1 x9_1).f4.f4)) ∧ w'.cell? ⟨(d_2.add ((x9_1).toNat * 13)).block, (d_2.add ((x9_1).toNat * 13)).off + 11, none⟩ = some (.int .i64 ((Y1 l1_1 x9_1).f4.f5)) ∧ w'.cell? ⟨(d_2.add ((x9_1).toNat * 13)).block, (d_2.add ((x9_1).toNat * 13)).off + 12, none⟩ = some (.int .i64 ((Y1 l1_1 x9_1).f4.f6)) ∧ w'.cell? (d_7.add ((x8_1).toNat * 13)) = some (.int .i64 ((Y1 l0_1 x8_1).f0.f0)) ∧ w'.cell? ⟨(d_7.add ((x8_1).toNat * 13)).block, (d_7.add ((x8_1).toNat * 13)).off + 1, none⟩ = some (.int .i64 ((Y1 l0_1 x8_1).f0.f1)) ∧ w'.cell? ⟨(d_7.add ((x8_1).toNat * 13)).block, (d_7.add ((x8_1).toNat * 13)).off + 2, none⟩ = some (.int .i64 ((Y1 l0_1 x8_1).f1)) ∧ w'.cell? ⟨(d_7.add ((x8_1).toNat * 13)).block, (d_7.add ((x8_1).toNat * 13)).off + 3, none⟩ = some (.int .i64 ((Y1 l0_1 x8_1).f2.f0)) ∧ w'.cell? ⟨(d_7.add ((x8_1).toNat * 13)).block, (d_7.add ((x8_1).toNat * 13)).off + 4, none⟩ = some (.int .i64 ((Y1 l0_1 x8_1).f2.f1)) ∧ w'.cell? ⟨(d_7.add ((x8_1).toNat * 13)).block, (d_7.add ((x8_1).toNat * 13)).off + 5, none⟩ = some (.bool ((Y1 l0_1 x8_1).f3)) ∧ w'.cell? ⟨(d_7.add ((x8_1).toNat * 13)).block, (d_7.add ((x8_1).toNat * 13)).off + 6, none⟩ = some (.int .i64 ((Y1 l0_1 x8_1).f4.f0)) ∧ w'.cell? ⟨(d_7.add ((x8_1).toNat * 13)).block, (d_7.add ((x8_1).toNat * 13)).off + 7, none⟩ = some (.int .i64 ((Y1 l0_1 x8_1).f4.f1)) ∧ w'.cell? ⟨(d_7.add ((x8_1).toNat * 13)).block, (d_7.add ((x8_1).toNat * 13)).off + 8, none⟩ = some (.int .i64 ((Y1 l0_1 x8_1).f4.f2)) ∧ w'.cell? ⟨(d_7.add ((x8_1).toNat * 13)).block, (d_7.add ((x8_1).toNat * 13)).off + 9, none⟩ = some (.int .i64 ((Y1 l0_1 x8_1).f4.f3)) ∧ w'.cell? ⟨(d_7.add ((x8_1).toNat * 13)).block, (d_7.add ((x8_1).toNat * 13)).off + 10, none⟩ = some (.int .i64 ((Y1 l0_1 x8_1).f4.f4)) ∧ w'.cell? ⟨(d_7.add ((x8_1).toNat * 13)).block, (d_7.add ((x8_1).toNat * 13)).off + 11, none⟩ = some (.int .i64 ((Y1 l0_1 x8_1).f4.f5)) ∧ w'.cell? ⟨(d_7.add ((x8_1).toNat * 13)).block, (d_7.add ((x8_1).toNat * 13)).off + 12, none⟩ = some (.int .i64 ((Y1 l0_1 x8_1).f4.f6))) (ds := []) #[false, false, false, false, false, false, false, false, false, false, false, false, false, false, false, false, false, false, false, false, false] (by kernel_rfl) rfl rfl ⟨(Y2 B_0.out 0).trans rfl, (Y2 B_0.out 1).trans rfl, (Y2 B_1.out 0).trans rfl, (Y2 B_1.out 1).trans rfl, (hbC HB q_2l), (hbC HB q_26), (hbC HB q_1u), (hbC HB q_2x), (hbC HB q_2f), (hbC HB q_29), (hbC HB q_24), (hbC HB q_2e), (hbC HB q_2a), (hbC HB q_1x), (hbC HB q_1w), (hbC HB q_21), (hbC HB q_2r), (hbC HB q_2n), (hbC HB q_2j), (hbC HB q_2s), (hbC HB q_36), (hbC HB q_35), (hbC HB q_28), (hbC HB q_2w), (hbC HB q_2m), (hbC HB q_37), (hbC HB q_33), (hbC HB q_2o), (hbC HB q_1t), (hbC HB q_2p)⟩ (fun hHeld => ?_); refine YO Y9.tab13 Y9.bits13 (fun HT_ HW_ => ?_)
            generalize wc.drew = w61 at HO_799001 B_0 B_1 B_3 B_2 HB m_16 m_1c m_23 m_1m m_1i m_10 m_1q m_t m_14 m_18 m_15 m_13 m_19 m_1t m_11 m_1w m_1y m_1p m_y m_v m_1d m_1h m_1s m_z m_1o m_1l hHeld ⊢
            refine puA 0 87 (bs 21 1) ?_
            refine puA 1 88 (bs 21 3) ?_
            refine tkA 2 89 (bs 21 7) hHeld ?_
            refine puA 3 90 (bs 21 15) ?_
            refine puA 4 91 (bs 21 31) ?_
            refine puA 5 92 (bs 21 63) ?_
            refine puA 6 93 (bs 21 127) ?_
            refine puA 8 95 (bs 21 383) ?_
            refine puA 12 99 (bs 21 4479) ?_
            refine puA 14 101 (bs 21 20863) ?_
            refine tkA 7 94 (bs 21 20991) hHeld ?_
            refine puA 9 96 (bs 21 21503) ?_
            refine puA 10 97 (bs 21 22527) ?_
            refine tkA 11 98 (bs 21 24575) hHeld ?_
            refine tkA 13 100 (bs 21 32767) hHeld ?_
            refine puA 15 102 (bs 21 65535) ?_
            refine puA 16 103 (bs 21 131071) ?_
            refine tkA 17 104 (bs 21 262143) hHeld ?_
            refine one_ (i := 18) (N := some 105) (bs 21 524287) rfl rfl (YH HT_.out (by kernel_rfl)) (by decide) (fun K hK => ?_)
            refine goes_ Try.func75 (by kernel_rfl) rfl #[.agg #[.int .i64 ((Y1 l1_1 x9_1).f0.f0), .int .i64 ((Y1 l1_1 x9_1).f0.f1)], .agg #[.int .i64 ((Y1 l0_1 x8_1).f0.f0), .int .i64 ((Y1 l0_1 x8_1).f0.f1)]] (by rfl) rfl rfl (by (try simp only [List.map_toArray, List.map_cons, List.map_nil]); first | done | rfl | (simp only [List.length_drop, List.length_take]; rfl)) ?_
            with_reducible refine (YN.calls ((Y1 l1_1 x9_1).f0.f0) ((Y1 l1_1 x9_1).f0.f1) ((Y1 l0_1 x8_1).f0.f0) ((Y1 l0_1 x8_1).f0.f1) t_1 _ A60.out).mono ?_
            rintro e w62 ⟨rfl, hb⟩
            refine ⟨_, rfl, ?_⟩
            replace HO_799001 := Y0.mk (Kd.R_below (Kd.rU HO_799001.out) hb)
            replace B_0 := Y0.mk (Y3 (bU B_0.out) hb)
            replace B_1 := Y0.mk (Y3 (bU B_1.out) hb)
            replace B_3 := Y0.mk (Y3 (bU B_3.out) hb)
            replace B_2 := Y0.mk (Y3 (bU B_2.out) hb)
            replace HB := Y0.mk (Y5 (hU HB.out) hb)
            (try clear hb)
            (try clear hb2)
            (try clear hk)
            (try clear hi)
            refine hK.out _ _ ⟨(Y2 B_0.out 0).trans rfl, (Y2 B_0.out 1).trans rfl, (Y2 B_1.out 0).trans rfl, (Y2 B_1.out 1).trans rfl, (hbC HB q_2l), (hbC HB q_26), (hbC HB q_1u), (hbC HB q_2x), (hbC HB q_2f), (hbC HB q_29), (hbC HB q_24), (hbC HB q_2e), (hbC HB q_2a), (hbC HB q_1x), (hbC HB q_1w), (hbC HB q_21), (hbC HB q_2r), (hbC HB q_2n), (hbC HB q_2j), (hbC HB q_2s), (hbC HB q_36), (hbC HB q_35), (hbC HB q_28), (hbC HB q_2w), (hbC HB q_2m), (hbC HB q_37), (hbC HB q_33), (hbC HB q_2o), (hbC HB q_1t), (hbC HB q_2p)⟩ (fun hHeld => ?_)
            clear hK K
            refine nmA 105 ?_
            refine puA 19 106 (bs 21 1048575) ?_
            refine puA 20 86 (bs 21 2097151) ?_
            refine done_ (Y17 HT_.out (by kernel_rfl)) ?_
            try go_wp2
            go_meet
            case rel => exact ⟨_, (t_1), reS, H', ⟨by have := HK1.out; have := HJ19.out; have := HJ33.out; first | omega | exact Nat.le_refl _⟩, ⟨by (with_reducible repeat (first | apply Kd.R_alloc | apply Kd.R_drewN | apply Kd.R_drew)); exact HO_799001.out⟩, ⟨kB B_0⟩, ⟨kB B_1⟩, ⟨kB B_3⟩, ⟨kB B_2⟩, ⟨hU HB.out⟩⟩
          case rest =>
           clear HC53
           try clear c1
           try clear p2
           try clear c4
           try clear c5
           try clear p6
           try clear c7
           try clear p8
           try clear q8
           try clear hx8
           try clear c45
           try clear c46
           try clear c47
           try clear c48
           try clear c54
           try clear c54b0
           try clear c54b1
           try clear c56
           try clear c56b0
           try clear c57
           try clear c57b0
           try clear c58
           try clear c58b0
           try clear c59
           try clear c59b0
           try clear m_16
           try clear m_1c
           try clear m_23
           try clear m_1m
           try clear m_1i
           try clear m_10
           try clear m_1q
           try clear m_t
           try clear m_14
           try clear m_18
           try clear m_15
           try clear m_13
           try clear m_19
           try clear m_1t
           try clear m_11
           try clear m_1w
           try clear m_1y
           try clear m_1p
           try clear m_y
           try clear m_v
           try clear m_1d
           try clear m_1h
           try clear m_1s
           try clear m_z
           try clear m_1o
           try clear m_1l
           try clear p806
           try clear p807
           try clear q806
           try clear q807
           obtain ⟨kq, x86_52, rfl, HA, HJ52, HO_799001, B_0, B_1, B_3, B_2, HB⟩ := hcut
           cases kq with
           | zero => exact absurd HA.out (by simp [Y9.j3])
           | succ kj52 =>
            have H := HA.out
            clear HA
            simp only [Y9.j3] at H
            by_cases c63 : x86_52 = true
            ·subst c63
             rw [if_pos rfl] at H
             obtain ⟨c64, H⟩ := iS H
             have c64b0 := decide_eq_true c64
             clear c64
             obtain ⟨c65, H⟩ := iS H
             have c65b0 := decide_eq_true c65
             clear c65
             obtain ⟨c66, H⟩ := iS H
             have LMc66 := Y0.mk c66
             clear c66
             obtain ⟨y810, hy810⟩ : ∃ y_ : List (S30), y_ = (x799001_1 ++ [(⟨(⟨(Y1 l1_1 x9_1).f0.f0, (Y1 l1_1 x9_1).f0.f1⟩ : S26), (Y1 l1_1 x9_1).f1, (⟨(Y1 l1_1 x9_1).f2.f0, (Y1 l1_1 x9_1).f2.f1⟩ : S26), (Y1 l1_1 x9_1).f3, (⟨(Y1 l1_1 x9_1).f4.f0, (Y1 l1_1 x9_1).f4.f1, (Y1 l1_1 x9_1).f4.f2, (Y1 l1_1 x9_1).f4.f3, (Y1 l1_1 x9_1).f4.f4, (Y1 l1_1 x9_1).f4.f5, (Y1 l1_1 x9_1).f4.f6⟩ : S28)⟩ : S30)]) := ⟨_, rfl⟩
             replace H : (Y9.l0 kj52 x8_1 (wrap64 (x9_1 + 1)) a0_0 l0_1 a1_0 l1_1 a0_0 y810) = some (r1, r2, r3) := by first | (rw [hy810]; with_reducible exact H) | (have H2_ := (Option.bind_some _ _).symm.trans H; rw [hy810]; with_reducible exact H2_) | (have H2_ := (Option.bind_some _ _).symm.trans H; with_reducible exact H2_) | with_reducible exact H | (rw [hy810]; exact H) | exact H
             have Ny810 := Y0.mk hy810
             clear hy810
             have H' := Y0.mk H
             clear H
             try go_wp2
             replace HO_799001 := Y0.mk (Kd.R_drew HO_799001.out)
             replace B_0 := Y0.mk (Y7 B_0.out)
             replace B_1 := Y0.mk (Y7 B_1.out)
             replace B_3 := Y0.mk (Y7 B_3.out)
             replace B_2 := Y0.mk (Y7 B_2.out)
             replace HB := Y0.mk (Yv HB.out)
             have p809 : 0 ≤ (x9_1 : Int) := of_decide_eq_true (by first | (with_reducible assumption) | assumption)
             have q809 : x9_1 < (l1_1.length : Int) := of_decide_eq_true (by first | (with_reducible assumption) | assumption)
             obtain ⟨d_6, e809, m_2c, m_2e, m_2g, m_2w, m_2n, m_2z, m_2d, m_36, m_2s, m_2t, m_2j, m_31, m_2i⟩ := Y14 HR1_1.out x9_1 p809 q809
             have q_12 := m_2i
             have q_z := m_31
             have q_h := m_2j
             have q_d := m_2t
             have q_8 := m_2s
             have q_11 := m_36
             have q_e := m_2d
             have q_w := m_2z
             have q_5 := m_2n
             have q_i := m_2w
             have q_k := m_2g
             have q_1 := m_2e
             have q_b := m_2c
             cases e809
             replace m_2c := hbC HB m_2c
             replace m_2e := hbC HB m_2e
             replace m_2g := hbC HB m_2g
             replace m_2w := hbC HB m_2w
             replace m_2n := hbC HB m_2n
             replace m_2z := hbC HB m_2z
             replace m_2d := hbC HB m_2d
             replace m_36 := hbC HB m_36
             replace m_2s := hbC HB m_2s
             replace m_2t := hbC HB m_2t
             replace m_2j := hbC HB m_2j
             replace m_31 := hbC HB m_31
             replace m_2i := hbC HB m_2i
             replace p809 := eq_true p809
             replace q809 := eq_true q809
             refine Y19 (n := 11) (S := fun w' => w'.cell? ⟨g_2, 0, none⟩ = some (.int .i64 a0_0) ∧ w'.cell? ⟨g_2, 1, none⟩ = some (u799001) ∧ w'.cell? ⟨g_1, 0, none⟩ = some (.int .i64 a1_0) ∧ w'.cell? ⟨g_1, 1, none⟩ = some (.slice (some d_6) l1_1.length c1_1) ∧ w'.cell? (d_6.add ((x9_1).toNat * 13)) = some (.int .i64 ((Y1 l1_1 x9_1).f0.f0)) ∧ w'.cell? ⟨(d_6.add ((x9_1).toNat * 13)).block, (d_6.add ((x9_1).toNat * 13)).off + 1, none⟩ = some (.int .i64 ((Y1 l1_1 x9_1).f0.f1)) ∧ w'.cell? ⟨(d_6.add ((x9_1).toNat * 13)).block, (d_6.add ((x9_1).toNat * 13)).off + 2, none⟩ = some (.int .i64 ((Y1 l1_1 x9_1).f1)) ∧ w'.cell? ⟨(d_6.add ((x9_1).toNat * 13)).block, (d_6.add ((x9_1).toNat * 13)).off + 3, none⟩ = some (.int .i64 ((Y1 l1_1 x9_1).f2.f0)) ∧ w'.cell? ⟨(d_6.add ((x9_1).toNat * 13)).block, (d_6.add ((x9_1).toNat * 13)).off + 4, none⟩ = some (.int .i64 ((Y1 l1_1 x9_1).f2.f1)) ∧ w'.cell? ⟨(d_6.add ((x9_1).toNat * 13)).block, (d_6.add ((x9_1).toNat * 13)).off + 5, none⟩ = some (.bool ((Y1 l1_1 x9_1).f3)) ∧ w'.cell? ⟨(d_6.add ((x9_1).toNat * 13)).block, (d_6.add ((x9_1).toNat * 13)).off + 6, none⟩ = some (.int .i64 ((Y1 l1_1 x9_1).f4.f0)) ∧ w'.cell? ⟨(d_6.add ((x9_1).toNat * 13)).block, (d_6.add ((x9_1).toNat * 13)).off + 7, none⟩ = some (.int .i64 ((Y1 l1_1 x9_1).f4.f1)) ∧ w'.cell? ⟨(d_6.add ((x9_1).toNat * 13)).block, (d_6.add ((x9_1).toNat * 13)).off + 8, none⟩ = some (.int .i64 ((Y1 l1_1 x9_1).f4.f2)) ∧ w'.cell? ⟨(d_6.add ((x9_1).toNat * 13)).block, (d_6.add ((x9_1).toNat * 13)).off + 9, none⟩ = some (.int .i64 ((Y1 l1_1 x9_1).f4.f3)) ∧ w'.cell? ⟨(d_6.add ((x9_1).toNat * 13)).block, (d_6.add ((x9_1).toNat * 13)).off + 10, none⟩ = some (.int .i64 ((Y1 l1_1 x9_1).f4.f4)) ∧ w'.cell? ⟨(d_6.add ((x9_1).toNat * 13)).block, (d_6.add ((x9_1).toNat * 13)).off + 11, none⟩ = some (.int .i64 ((Y1 l1_1 x9_1).f4.f5)) ∧ w'.cell? ⟨(d_6.add ((x9_1).toNat * 13)).block, (d_6.add ((x9_1).toNat * 13)).off + 12, none⟩ = some (.int .i64 ((Y1 l1_1 x9_1).f4.f6))) (ds := [10]) #[false, false, false, false, false, false, false, false, false, false, false] (by kernel_rfl) rfl rfl ⟨(Y2 B_2.out 0).trans rfl, (Y2 B_2.out 1).trans rfl, (Y2 B_1.out 0).trans rfl, (Y2 B_1.out 1).trans rfl, (hbC HB q_b), (hbC HB q_1), (hbC HB q_k), (hbC HB q_i), (hbC HB q_5), (hbC HB q_w), (hbC HB q_e), (hbC HB q_11), (hbC HB q_8), (hbC HB q_d), (hbC HB q_h), (hbC HB q_z), (hbC HB q_12)⟩ (fun hHeld => ?_); refine YO Y9.tab14 Y9.bits14 (fun HT_ HW_ => ?_)
             generalize wc.drew = w67 at HO_799001 B_0 B_1 B_3 B_2 HB m_2c m_2e m_2j m_31 m_2i m_2g m_2w m_2n m_2z m_2d m_36 m_2s m_2t hHeld ⊢
             refine puA 0 107 (bs 11 1) ?_
             refine puA 2 109 (bs 11 5) ?_
             refine puA 4 111 (bs 11 21) ?_
             refine tkA 1 108 (bs 11 23) hHeld ?_
             refine tkA 3 110 (bs 11 31) hHeld ?_
             refine puA 5 112 (bs 11 63) ?_
             refine tkA 6 113 (bs 11 127) hHeld ?_
             refine one_ (i := 7) (N := some 114) (bs 11 255) rfl rfl (YH HT_.out (by kernel_rfl)) (by decide) (fun K hK => ?_)
             refine Y3v (w1 := ?_) (v := ?_) (by rfl) rfl ?_ ?_
             rotate_left 2
             ·go_simp
              constructor
              ·rfl
              ·rfl
             refine hK.out _ _ ⟨(Y2 (Y6 B_2.out _) 0).trans rfl, (Y2 (Y6 B_2.out _) 1).trans rfl, (Y2 (Y6 B_1.out _) 0).trans rfl, (Y2 (Y6 B_1.out _) 1).trans rfl, (World.cell?_alloc_lt _ _ _ (World.block_lt_of_cell? _ _ ((hbC HB q_b)))).trans ((hbC HB q_b)), (World.cell?_alloc_lt _ _ _ (World.block_lt_of_cell? _ _ ((hbC HB q_1)))).trans ((hbC HB q_1)), (World.cell?_alloc_lt _ _ _ (World.block_lt_of_cell? _ _ ((hbC HB q_k)))).trans ((hbC HB q_k)), (World.cell?_alloc_lt _ _ _ (World.block_lt_of_cell? _ _ ((hbC HB q_i)))).trans ((hbC HB q_i)), (World.cell?_alloc_lt _ _ _ (World.block_lt_of_cell? _ _ ((hbC HB q_5)))).trans ((hbC HB q_5)), (World.cell?_alloc_lt _ _ _ (World.block_lt_of_cell? _ _ ((hbC HB q_w)))).trans ((hbC HB q_w)), (World.cell?_alloc_lt _ _ _ (World.block_lt_of_cell? _ _ ((hbC HB q_e)))).trans ((hbC HB q_e)), (World.cell?_alloc_lt _ _ _ (World.block_lt_of_cell? _ _ ((hbC HB q_11)))).trans ((hbC HB q_11)), (World.cell?_alloc_lt _ _ _ (World.block_lt_of_cell? _ _ ((hbC HB q_8)))).trans ((hbC HB q_8)), (World.cell?_alloc_lt _ _ _ (World.block_lt_of_cell? _ _ ((hbC HB q_d)))).trans ((hbC HB q_d)), (World.cell?_alloc_lt _ _ _ (World.block_lt_of_cell? _ _ ((hbC HB q_h)))).trans ((hbC HB q_h)), (World.cell?_alloc_lt _ _ _ (World.block_lt_of_cell? _ _ ((hbC HB q_z)))).trans ((hbC HB q_z)), (World.cell?_alloc_lt _ _ _ (World.block_lt_of_cell? _ _ ((hbC HB q_12)))).trans ((hbC HB q_12))⟩ (fun hHeld => ?_)
             clear hK K
             refine nmA 114 ?_
             refine one_ (i := 8) (N := some 115) (bs 11 511) rfl rfl (YH HT_.out (by kernel_rfl)) (by decide) (fun K hK => ?_)
             refine Kd.R_append_step k30 (w0 := w) w.heap.size (by rfl) (.tmp 108) (.tmp 114) 22 30 (.agg #[(.int .i64 0), (.int .i64 0), (.int .i64 0), (.int .i64 0), (.int .i64 0), (.bool false), (.int .i64 0), (.int .i64 0), (.int .i64 0), (.int .i64 0), (.int .i64 0), (.int .i64 0), (.int .i64 0)]) 104 rfl Try.underlying22 Y1H rfl (by decide) (by omega) u799001 x799001_1 (⟨(⟨(Y1 l1_1 x9_1).f0.f0, (Y1 l1_1 x9_1).f0.f1⟩ : S26), (Y1 l1_1 x9_1).f1, (⟨(Y1 l1_1 x9_1).f2.f0, (Y1 l1_1 x9_1).f2.f1⟩ : S26), (Y1 l1_1 x9_1).f3, (⟨(Y1 l1_1 x9_1).f4.f0, (Y1 l1_1 x9_1).f4.f1, (Y1 l1_1 x9_1).f4.f2, (Y1 l1_1 x9_1).f4.f3, (Y1 l1_1 x9_1).f4.f4, (Y1 l1_1 x9_1).f4.f5, (Y1 l1_1 x9_1).f4.f6⟩ : S28)⟩ : S30) [.int .i64 ((Y1 l1_1 x9_1).f0.f0), .int .i64 ((Y1 l1_1 x9_1).f0.f1), .int .i64 ((Y1 l1_1 x9_1).f1), .int .i64 ((Y1 l1_1 x9_1).f2.f0), .int .i64 ((Y1 l1_1 x9_1).f2.f1), .bool ((Y1 l1_1 x9_1).f3), .int .i64 ((Y1 l1_1 x9_1).f4.f0), .int .i64 ((Y1 l1_1 x9_1).f4.f1), .int .i64 ((Y1 l1_1 x9_1).f4.f2), .int .i64 ((Y1 l1_1 x9_1).f4.f3), .int .i64 ((Y1 l1_1 x9_1).f4.f4), .int .i64 ((Y1 l1_1 x9_1).f4.f5), .int .i64 ((Y1 l1_1 x9_1).f4.f6)] (fun _ => True) (fun _ => False) rfl rfl ?aP (fun _ hk => hk.elim) ?aF ?aO ?aB ?aS ?aL ?_
             (case aP => exact Y1h _ _ _ (⟨(⟨(Y1 l1_1 x9_1).f0.f0, (Y1 l1_1 x9_1).f0.f1⟩ : S26), (Y1 l1_1 x9_1).f1, (⟨(Y1 l1_1 x9_1).f2.f0, (Y1 l1_1 x9_1).f2.f1⟩ : S26), (Y1 l1_1 x9_1).f3, (⟨(Y1 l1_1 x9_1).f4.f0, (Y1 l1_1 x9_1).f4.f1, (Y1 l1_1 x9_1).f4.f2, (Y1 l1_1 x9_1).f4.f3, (Y1 l1_1 x9_1).f4.f4, (Y1 l1_1 x9_1).f4.f5, (Y1 l1_1 x9_1).f4.f6⟩ : S28)⟩ : S30))
             (case aB => exact (hU HB.out))
             (case aF => exact (fun _ _ => trivial))
             (case aO => exact (Kd.rU HO_799001.out))
             (case aS => exact (Yh (hU HB.out)))
             (case aL => have := LMc66.out; omega)
             intro v_0 w68 ho hb hg hat
             rw [← Ny810.out] at ho
             have n0_ := Y0.mk (YC (bU B_0.out) hg (Kd.R_ne HO_799001.out B_0.out (by decide)))
             have n1_ := Y0.mk (YC (bU B_1.out) hg (Kd.R_ne HO_799001.out B_1.out (by decide)))
             have n2_ := Y0.mk (YC (bU B_3.out) hg (Kd.R_ne HO_799001.out B_3.out (by decide)))
             have n3_ := Y0.mk (YC (bU B_2.out) hg (Kd.R_ne HO_799001.out B_2.out (by decide)))
             have n4_ := Y0.mk (hb)
             have n5_ := Y0.mk (ho)
             clear B_0
             clear B_1
             clear B_3
             clear B_2
             clear HB
             clear HO_799001
             have B_0 := n0_
             have B_1 := n1_
             have B_3 := n2_
             have B_2 := n3_
             have HB := n4_
             have O_0 := n5_
             clear n0_ n1_ n2_ n3_ n4_ n5_
             clear ho hb hg hat
             obtain ⟨Ao69, co69, eo69⟩ := Kd.R_slice O_0.out
             (first | subst eo69 | (injection eo69 with f1_ f2_ f3_; have f4_ := f1_.symm; have f5_ := f3_.symm; clear f1_ f2_ f3_; subst f4_; subst f5_))
             refine hK.out _ _ ⟨(Y2 B_2.out 0).trans rfl, (Y2 B_2.out 1).trans rfl, (Y2 B_1.out 0).trans rfl, (Y2 B_1.out 1).trans rfl, (hbC HB q_b), (hbC HB q_1), (hbC HB q_k), (hbC HB q_i), (hbC HB q_5), (hbC HB q_w), (hbC HB q_e), (hbC HB q_11), (hbC HB q_8), (hbC HB q_d), (hbC HB q_h), (hbC HB q_z), (hbC HB q_12)⟩ (fun hHeld => ?_)
             clear hK K
             refine nmA 115 ?_
             refine puA 9 116 (bs 11 1023) ?_
             refine last_ (i := 10) (N := none) #[true, true, true, true, true, true, true, true, true, true, true] rfl rfl (YH HT_.out (by kernel_rfl)) (by decide) (fun K hK => ?_)
             have hs70 : w68.cell? ⟨g_2, 1, none⟩ = some (u799001) := (Y2 B_2.out 1).trans rfl
             have hfs70 := Y4 B_2.out 1
             have hns70_0 := N_0.out
             have hns70_1 := N_2.out
             have hns70_2 := N_1.out
             have hms70_0 := N_5.out
             have hms70_1 := N_7.out
             have hms70_2 := N_6.out
             refine skip_ (w1 := ?_) (by rfl) rfl ?_ ?_
             rotate_left
             ·go_simp
              rfl
             refine hK.out _ _ ?_
             clear hK K
             refine done_ (Y17 HT_.out (by kernel_rfl)) ?_
             try go_wp2
             go_roundg kj52
             case measure => have := HK1.out; have := HJ19.out; have := HJ33.out; have := HJ52.out; omega
             case rel => exact ⟨(x8_1), (wrap64 (x9_1 + 1)), (x797000_1), (y810), (.slice Ao69 y810.length co69), reS, reS, H', ⟨by have := HK1.out; have := HJ19.out; have := HJ33.out; have := HJ52.out; omega⟩, ⟨by (with_reducible repeat (first | apply Kd.R_alloc | apply Kd.R_drewN | apply Kd.R_drew)); exact Kd.R_mono (Kd.R_far (p := ⟨g_2, 1, none⟩) (Kd.R_types O_0.out B_2.out (by decide)) (fun _ hk => hk.2) (.slice Ao69 y810.length co69)) (fun _ hk => trivial)⟩, ⟨by (with_reducible repeat (first | refine Y8 ?_ _ | refine Y7 ?_ | refine Y6 ?_ _)); refine (Below.heap_setCell _ ⟨_, _, none⟩ _ _ N_0.out).trans ?_; (with_reducible repeat (first | refine Y8 ?_ _ | refine Y7 ?_ | refine Y6 ?_ _)); exact B_0.out⟩, ⟨by (with_reducible repeat (first | refine Y8 ?_ _ | refine Y7 ?_ | refine Y6 ?_ _)); refine (Below.heap_setCell _ ⟨_, _, none⟩ _ _ N_2.out).trans ?_; (with_reducible repeat (first | refine Y8 ?_ _ | refine Y7 ?_ | refine Y6 ?_ _)); exact B_1.out⟩, ⟨by (with_reducible repeat (first | refine Y8 ?_ _ | refine Y7 ?_ | refine Y6 ?_ _)); refine (Below.heap_setCell _ ⟨_, _, none⟩ _ _ N_1.out).trans ?_; (with_reducible repeat (first | refine Y8 ?_ _ | refine Y7 ?_ | refine Y6 ?_ _)); exact B_3.out⟩, ⟨by (with_reducible repeat (first | refine Y8 ?_ _ | refine Y7 ?_ | refine Y6 ?_ _)); refine Yn (cs := #[.int .i64 a0_0, u799001]) ?_ 1 _ rfl; (with_reducible repeat (first | refine Y8 ?_ _ | refine Y7 ?_ | refine Y6 ?_ _)); exact B_2.out⟩, ⟨hU HB.out⟩⟩
            ·replace c63 := Bool.eq_false_iff.mpr c63
             subst c63
             rw [if_neg (show ¬ (false = true) by decide)] at H
             obtain ⟨c71, H⟩ := iS H
             have c71b0 := decide_eq_true c71
             clear c71
             obtain ⟨c72, H⟩ := iS H
             have c72b0 := decide_eq_true c72
             clear c72
             obtain ⟨c73, H⟩ := iS H
             have c73b0 := decide_eq_true c73
             clear c73
             obtain ⟨c74, H⟩ := iS H
             have c74b0 := decide_eq_true c74
             clear c74
             by_cases c75 : ((!(((Y1 l0_1 x8_1).f0.f0) == ((Y1 l1_1 x9_1).f0.f0)) || (!(((Y1 l0_1 x8_1).f0.f1) == ((Y1 l1_1 x9_1).f0.f1)))) || (!(((Y1 l0_1 x8_1).f1) == ((Y1 l1_1 x9_1).f1)) || ((!(((Y1 l0_1 x8_1).f2.f0) == ((Y1 l1_1 x9_1).f2.f0)) || (!(((Y1 l0_1 x8_1).f2.f1) == ((Y1 l1_1 x9_1).f2.f1)))) || (!(((Y1 l0_1 x8_1).f3) == ((Y1 l1_1 x9_1).f3)) || ((!(((Y1 l0_1 x8_1).f4.f0) == ((Y1 l1_1 x9_1).f4.f0)) || (!(((Y1 l0_1 x8_1).f4.f1) == ((Y1 l1_1 x9_1).f4.f1)) || (!(((Y1 l0_1 x8_1).f4.f2) == ((Y1 l1_1 x9_1).f4.f2)) || (!(((Y1 l0_1 x8_1).f4.f3) == ((Y1 l1_1 x9_1).f4.f3)) || (!(((Y1 l0_1 x8_1).f4.f4) == ((Y1 l1_1 x9_1).f4.f4)) || (!(((Y1 l0_1 x8_1).f4.f5) == ((Y1 l1_1 x9_1).f4.f5)) || (!(((Y1 l0_1 x8_1).f4.f6) == ((Y1 l1_1 x9_1).f4.f6)))))))))))))) = true
             ·rw [if_pos c75] at H
              have c75b0 : ((!(((Y1 l0_1 x8_1).f0.f0) == ((Y1 l1_1 x9_1).f0.f0)) || (!(((Y1 l0_1 x8_1).f0.f1) == ((Y1 l1_1 x9_1).f0.f1)))) || (!(((Y1 l0_1 x8_1).f1) == ((Y1 l1_1 x9_1).f1)) || ((!(((Y1 l0_1 x8_1).f2.f0) == ((Y1 l1_1 x9_1).f2.f0)) || (!(((Y1 l0_1 x8_1).f2.f1) == ((Y1 l1_1 x9_1).f2.f1)))) || (!(((Y1 l0_1 x8_1).f3) == ((Y1 l1_1 x9_1).f3)) || ((!(((Y1 l0_1 x8_1).f4.f0) == ((Y1 l1_1 x9_1).f4.f0)) || (!(((Y1 l0_1 x8_1).f4.f1) == ((Y1 l1_1 x9_1).f4.f1)) || (!(((Y1 l0_1 x8_1).f4.f2) == ((Y1 l1_1 x9_1).f4.f2)) || (!(((Y1 l0_1 x8_1).f4.f3) == ((Y1 l1_1 x9_1).f4.f3)) || (!(((Y1 l0_1 x8_1).f4.f4) == ((Y1 l1_1 x9_1).f4.f4)) || (!(((Y1 l0_1 x8_1).f4.f5) == ((Y1 l1_1 x9_1).f4.f5)) || (!(((Y1 l0_1 x8_1).f4.f6) == ((Y1 l1_1 x9_1).f4.f6)))))))))))))) = true := c75
              clear c75
              simp only [Option.some.injEq, Prod.mk.injEq] at H
              obtain ⟨rfl, rfl, rfl⟩ := H
              try go_wp2
              replace HO_799001 := Y0.mk (Kd.R_drew HO_799001.out)
              replace B_0 := Y0.mk (Y7 B_0.out)
              replace B_1 := Y0.mk (Y7 B_1.out)
              replace B_3 := Y0.mk (Y7 B_3.out)
              replace B_2 := Y0.mk (Y7 B_2.out)
              replace HB := Y0.mk (Yv HB.out)
              have p813 : 0 ≤ (x8_1 : Int) := of_decide_eq_true (by first | (with_reducible assumption) | assumption)
              have q813 : x8_1 < (l0_1.length : Int) := of_decide_eq_true (by first | (with_reducible assumption) | assumption)
              obtain ⟨d_0, e813, m_7, m_4, m_h, m_e, m_l, m_d, m_9, m_f, m_2, m_b, m_8, m_5, m_6⟩ := Y14 HR0_1.out x8_1 p813 q813
              have q_1d := m_6
              have q_1n := m_5
              have q_1m := m_8
              have q_1h := m_b
              have q_15 := m_2
              have q_14 := m_f
              have q_1o := m_9
              have q_1k := m_d
              have q_1p := m_l
              have q_1e := m_e
              have q_1j := m_h
              have q_13 := m_4
              have q_1g := m_7
              cases e813
              replace m_7 := hbC HB m_7
              replace m_4 := hbC HB m_4
              replace m_h := hbC HB m_h
              replace m_e := hbC HB m_e
              replace m_l := hbC HB m_l
              replace m_d := hbC HB m_d
              replace m_9 := hbC HB m_9
              replace m_f := hbC HB m_f
              replace m_2 := hbC HB m_2
              replace m_b := hbC HB m_b
              replace m_8 := hbC HB m_8
              replace m_5 := hbC HB m_5
              replace m_6 := hbC HB m_6
              replace p813 := eq_true p813
              replace q813 := eq_true q813
              have p814 : 0 ≤ (x9_1 : Int) := of_decide_eq_true (by first | (with_reducible assumption) | assumption)
              have q814 : x9_1 < (l1_1.length : Int) := of_decide_eq_true (by first | (with_reducible assumption) | assumption)
              obtain ⟨d_1, e814, m_a, m_m, m_3, m_o, m_k, m_c, m_i, m_0, m_p, m_j, m_n, m_g, m_1⟩ := Y14 HR1_1.out x9_1 p814 q814
              have q_1q := m_1
              have q_1i := m_g
              have q_19 := m_n
              have q_1a := m_j
              have q_1l := m_p
              have q_1b := m_0
              have q_1r := m_i
              have q_1f := m_c
              have q_17 := m_k
              have q_16 := m_o
              have q_1s := m_3
              have q_18 := m_m
              have q_1c := m_a
              cases e814
              replace m_a := hbC HB m_a
              replace m_m := hbC HB m_m
              replace m_3 := hbC HB m_3
              replace m_o := hbC HB m_o
              replace m_k := hbC HB m_k
              replace m_c := hbC HB m_c
              replace m_i := hbC HB m_i
              replace m_0 := hbC HB m_0
              replace m_p := hbC HB m_p
              replace m_j := hbC HB m_j
              replace m_n := hbC HB m_n
              replace m_g := hbC HB m_g
              replace m_1 := hbC HB m_1
              replace p814 := eq_true p814
              replace q814 := eq_true q814
              refine Y19 (n := 12) (S := fun w' => w'.cell? ⟨g_0, 0, none⟩ = some (.int .i64 a0_0) ∧ w'.cell? ⟨g_0, 1, none⟩ = some (.slice (some d_0) l0_1.length c0_1) ∧ w'.cell? ⟨g_1, 0, none⟩ = some (.int .i64 a1_0) ∧ w'.cell? ⟨g_1, 1, none⟩ = some (.slice (some d_1) l1_1.length c1_1) ∧ w'.cell? (d_0.add ((x8_1).toNat * 13)) = some (.int .i64 ((Y1 l0_1 x8_1).f0.f0)) ∧ w'.cell? ⟨(d_0.add ((x8_1).toNat * 13)).block, (d_0.add ((x8_1).toNat * 13)).off + 1, none⟩ = some (.int .i64 ((Y1 l0_1 x8_1).f0.f1)) ∧ w'.cell? ⟨(d_0.add ((x8_1).toNat * 13)).block, (d_0.add ((x8_1).toNat * 13)).off + 2, none⟩ = some (.int .i64 ((Y1 l0_1 x8_1).f1)) ∧ w'.cell? ⟨(d_0.add ((x8_1).toNat * 13)).block, (d_0.add ((x8_1).toNat * 13)).off + 3, none⟩ = some (.int .i64 ((Y1 l0_1 x8_1).f2.f0)) ∧ w'.cell? ⟨(d_0.add ((x8_1).toNat * 13)).block, (d_0.add ((x8_1).toNat * 13)).off + 4, none⟩ = some (.int .i64 ((Y1 l0_1 x8_1).f2.f1)) ∧ w'.cell? ⟨(d_0.add ((x8_1).toNat * 13)).block, (d_0.add ((x8_1).toNat * 13)).off + 5, none⟩ = some (.bool ((Y1 l0_1 x8_1).f3)) ∧ w'.cell? ⟨(d_0.add ((x8_1).toNat * 13)).block, (d_0.add ((x8_1).toNat * 13)).off + 6, none⟩ = some (.int .i64 ((Y1 l0_1 x8_1).f4.f0)) ∧ w'.cell? ⟨(d_0.add ((x8_1).toNat * 13)).block, (d_0.add ((x8_1).toNat * 13)).off + 7, none⟩ = some (.int .i64 ((Y1 l0_1 x8_1).f4.f1)) ∧ w'.cell? ⟨(d_0.add ((x8_1).toNat * 13)).block, (d_0.add ((x8_1).toNat * 13)).off + 8, none⟩ = some (.int .i64 ((Y1 l0_1 x8_1).f4.f2)) ∧ w'.cell? ⟨(d_0.add ((x8_1).toNat * 13)).block, (d_0.add ((x8_1).toNat * 13)).off + 9, none⟩ = some (.int .i64 ((Y1 l0_1 x8_1).f4.f3)) ∧ w'.cell? ⟨(d_0.add ((x8_1).toNat * 13)).block, (d_0.add ((x8_1).toNat * 13)).off + 10, none⟩ = some (.int .i64 ((Y1 l0_1 x8_1).f4.f4)) ∧ w'.cell? ⟨(d_0.add ((x8_1).toNat * 13)).block, (d_0.add ((x8_1).toNat * 13)).off + 11, none⟩ = some (.int .i64 ((Y1 l0_1 x8_1).f4.f5)) ∧ w'.cell? ⟨(d_0.add ((x8_1).toNat * 13)).block, (d_0.add ((x8_1).toNat * 13)).off + 12, none⟩ = some (.int .i64 ((Y1 l0_1 x8_1).f4.f6)) ∧ w'.cell? (d_1.add ((x9_1).toNat * 13)) = some (.int .i64 ((Y1 l1_1 x9_1).f0.f0)) ∧ w'.cell? ⟨(d_1.add ((x9_1).toNat * 13)).block, (d_1.add ((x9_1).toNat * 13)).off + 1, none⟩ = some (.int .i64 ((Y1 l1_1 x9_1).f0.f1)) ∧ w'.cell? ⟨(d_1.add ((x9_1).toNat * 13)).block, (d_1.add ((x9_1).toNat * 13)).off + 2, none⟩ = some (.int .i64 ((Y1 l1_1 x9_1).f1)) ∧ w'.cell? ⟨(d_1.add ((x9_1).toNat * 13)).block, (d_1.add ((x9_1).toNat * 13)).off + 3, none⟩ = some (.int .i64 ((Y1 l1_1 x9_1).f2.f0)) ∧ w'.cell? ⟨(d_1.add ((x9_1).toNat * 13)).block, (d_1.add ((x9_1).toNat * 13)).off + 4, none⟩ = some (.int .i64 ((Y1 l1_1 x9_1).f2.f1)) ∧ w'.cell? ⟨(d_1.add ((x9_1).toNat * 13)).block, (d_1.add ((x9_1).toNat * 13)).off + 5, none⟩ = some (.bool ((Y1 l1_1 x9_1).f3)) ∧ w'.cell? ⟨(d_1.add ((x9_1).toNat * 13)).block, (d_1.add ((x9_1).toNat * 13)).off + 6, none⟩ = some (.int .i64 ((Y1 l1_1 x9_1).f4.f0)) ∧ w'.cell? ⟨(d_1.add ((x9_1).toNat * 13)).block, (d_1.add ((x9_1).toNat * 13)).off + 7, none⟩ = some (.int .i64 ((Y1 l1_1 x9_1).f4.f1)) ∧ w'.cell? ⟨(d_1.add ((x9_1).toNat * 13)).block, (d_1.add ((x9_1).toNat * 13)).off + 8, none⟩ = some (.int .i64 ((Y1 l1_1 x9_1).f4.f2)) ∧ w'.cell? ⟨(d_1.add ((x9_1).toNat * 13)).block, (d_1.add ((x9_1).toNat * 13)).off + 9, none⟩ = some (.int .i64 ((Y1 l1_1 x9_1).f4.f3)) ∧ w'.cell? ⟨(d_1.add ((x9_1).toNat * 13)).block, (d_1.add ((x9_1).toNat * 13)).off + 10, none⟩ = some (.int .i64 ((Y1 l1_1 x9_1).f4.f4)) ∧ w'.cell? ⟨(d_1.add ((x9_1).toNat * 13)).block, (d_1.add ((x9_1).toNat * 13)).off + 11, none⟩ = some (.int .i64 ((Y1 l1_1 x9_1).f4.f5)) ∧ w'.cell? ⟨(d_1.add ((x9_1).toNat * 13)).block, (d_1.add ((x9_1).toNat * 13)).off + 12, none⟩ = some (.int .i64 ((Y1 l1_1 x9_1).f4.f6))) (ds := []) #[false, false, false, false, false, false, false, false, false, false, false, false] (by kernel_rfl) rfl rfl ⟨(Y2 B_0.out 0).trans rfl, (Y2 B_0.out 1).trans rfl, (Y2 B_1.out 0).trans rfl, (Y2 B_1.out 1).trans rfl, (hbC HB q_1g), (hbC HB q_13), (hbC HB q_1j), (hbC HB q_1e), (hbC HB q_1p), (hbC HB q_1k), (hbC HB q_1o), (hbC HB q_14), (hbC HB q_15), (hbC HB q_1h), (hbC HB q_1m), (hbC HB q_1n), (hbC HB q_1d), (hbC HB q_1c), (hbC HB q_18), (hbC HB q_1s), (hbC HB q_16), (hbC HB q_17), (hbC HB q_1f), (hbC HB q_1r), (hbC HB q_1b), (hbC HB q_1l), (hbC HB q_1a), (hbC HB q_19), (hbC HB q_1i), (hbC HB q_1q)⟩ (fun hHeld => ?_); refine YO Y9.tab16 Y9.bits16 (fun HT_ HW_ => ?_)
              generalize wc.drew = w76 at HO_799001 B_0 B_1 B_3 B_2 HB m_7 m_4 m_8 m_5 m_6 m_h m_e m_l m_d m_9 m_f m_2 m_b m_a m_m m_n m_g m_1 m_3 m_o m_k m_c m_i m_0 m_p m_j hHeld ⊢
              refine puA 0 120 (bs 12 1) ?_
              refine puA 2 122 (bs 12 5) ?_
              refine puA 5 125 (bs 12 37) ?_
              refine puA 7 127 (bs 12 165) ?_
              refine tkA 1 121 (bs 12 167) hHeld ?_
              refine puA 3 123 (bs 12 175) ?_
              refine tkA 4 124 (bs 12 191) hHeld ?_
              refine tkA 6 126 (bs 12 255) hHeld ?_
              refine puA 8 128 (bs 12 511) ?_
              refine tkA 9 129 (bs 12 1023) hHeld ?_
              refine puA 10 130 (bs 12 2047) ?_
              refine puA 11 119 (bs 12 4095) ?_
              refine done_ (Y17 HT_.out (by kernel_rfl)) ?_
              have hnb77 := N_3.out
              have hnc77 := N_4.out
              have hnb78 := N_9.out
              have hnc78 := N_8.out
              have hnb79 := N_1.out
              have hnc79 := N_6.out
              have z_h := Y2 B_3.out
              have f_l := Y4 B_3.out
              try go_wp2
              refine bodyPost_ret (YZ rfl _ _ g_3 24 #[.int .i64 0, .slice none 0 0] (0, 0) _ rfl (by (with_reducible repeat (first | refine Y8 ?_ _ | refine Y7 ?_ | refine Y6 ?_ _)); refine Yn (cs := #[.int .i64 0, .slice none 0 0]) ?_ 1 _ rfl; (with_reducible repeat (first | refine Y8 ?_ _ | refine Y7 ?_ | refine Y6 ?_ _)); refine Yn (cs := #[.int .i64 x797000_1, .slice none 0 0]) ?_ 0 _ rfl; (with_reducible repeat (first | refine Y8 ?_ _ | refine Y7 ?_ | refine Y6 ?_ _)); exact B_3.out) Try.underlying24 rfl (by kernel_rfl)) rfl ?_
              exact ⟨_, reT, by first | exact Kd.R_nil _ _ _ _ _ | exact Kd.N_nil _ _ _ _ _ | exact Kd.V_nil _ _ _ _ _ | exact Kd.Q_nil _ _ _ _ _ | exact Kd.S_nil _ _ _ _ _, hU HB.out⟩
             ·rw [if_neg c75] at H
              have c75b0 : ((!(((Y1 l0_1 x8_1).f0.f0) == ((Y1 l1_1 x9_1).f0.f0)) || (!(((Y1 l0_1 x8_1).f0.f1) == ((Y1 l1_1 x9_1).f0.f1)))) || (!(((Y1 l0_1 x8_1).f1) == ((Y1 l1_1 x9_1).f1)) || ((!(((Y1 l0_1 x8_1).f2.f0) == ((Y1 l1_1 x9_1).f2.f0)) || (!(((Y1 l0_1 x8_1).f2.f1) == ((Y1 l1_1 x9_1).f2.f1)))) || (!(((Y1 l0_1 x8_1).f3) == ((Y1 l1_1 x9_1).f3)) || ((!(((Y1 l0_1 x8_1).f4.f0) == ((Y1 l1_1 x9_1).f4.f0)) || (!(((Y1 l0_1 x8_1).f4.f1) == ((Y1 l1_1 x9_1).f4.f1)) || (!(((Y1 l0_1 x8_1).f4.f2) == ((Y1 l1_1 x9_1).f4.f2)) || (!(((Y1 l0_1 x8_1).f4.f3) == ((Y1 l1_1 x9_1).f4.f3)) || (!(((Y1 l0_1 x8_1).f4.f4) == ((Y1 l1_1 x9_1).f4.f4)) || (!(((Y1 l0_1 x8_1).f4.f5) == ((Y1 l1_1 x9_1).f4.f5)) || (!(((Y1 l0_1 x8_1).f4.f6) == ((Y1 l1_1 x9_1).f4.f6)))))))))))))) = false := by simpa using c75
              clear c75
              obtain ⟨c81, H⟩ := iS H
              have LMc81 := Y0.mk c81
              clear c81
              obtain ⟨y816, hy816⟩ : ∃ y_ : List (S30), y_ = (x799001_1 ++ [(⟨(⟨(Y1 l0_1 x8_1).f0.f0, (Y1 l0_1 x8_1).f0.f1⟩ : S26), (Y1 l0_1 x8_1).f1, (⟨(Y1 l0_1 x8_1).f2.f0, (Y1 l0_1 x8_1).f2.f1⟩ : S26), (Y1 l0_1 x8_1).f3, (⟨(Y1 l0_1 x8_1).f4.f0, (Y1 l0_1 x8_1).f4.f1, (Y1 l0_1 x8_1).f4.f2, (Y1 l0_1 x8_1).f4.f3, (Y1 l0_1 x8_1).f4.f4, (Y1 l0_1 x8_1).f4.f5, (Y1 l0_1 x8_1).f4.f6⟩ : S28)⟩ : S30)]) := ⟨_, rfl⟩
              replace H : (Y9.l0 kj52 (wrap64 (x8_1 + 1)) (wrap64 (x9_1 + 1)) a0_0 l0_1 a1_0 l1_1 a0_0 y816) = some (r1, r2, r3) := by first | (rw [hy816]; with_reducible exact H) | (have H2_ := (Option.bind_some _ _).symm.trans H; rw [hy816]; with_reducible exact H2_) | (have H2_ := (Option.bind_some _ _).symm.trans H; with_reducible exact H2_) | with_reducible exact H | (rw [hy816]; exact H) | exact H
              have Ny816 := Y0.mk hy816
              clear hy816
              have H' := Y0.mk H
              clear H
              try go_wp2
              replace HO_799001 := Y0.mk (Kd.R_drew HO_799001.out)
              replace B_0 := Y0.mk (Y7 B_0.out)
              replace B_1 := Y0.mk (Y7 B_1.out)
              replace B_3 := Y0.mk (Y7 B_3.out)
              replace B_2 := Y0.mk (Y7 B_2.out)
              replace HB := Y0.mk (Yv HB.out)
              have p813 : 0 ≤ (x8_1 : Int) := of_decide_eq_true (by first | (with_reducible assumption) | assumption)
              have q813 : x8_1 < (l0_1.length : Int) := of_decide_eq_true (by first | (with_reducible assumption) | assumption)
              obtain ⟨d_0, e813, m_7, m_4, m_h, m_e, m_l, m_d, m_9, m_f, m_2, m_b, m_8, m_5, m_6⟩ := Y14 HR0_1.out x8_1 p813 q813
              have q_1d := m_6
              have q_1n := m_5
              have q_1m := m_8
              have q_1h := m_b
              have q_15 := m_2
              have q_14 := m_f
              have q_1o := m_9
              have q_1k := m_d
              have q_1p := m_l
              have q_1e := m_e
              have q_1j := m_h
              have q_13 := m_4
              have q_1g := m_7
              cases e813
              replace m_7 := hbC HB m_7
              replace m_4 := hbC HB m_4
              replace m_h := hbC HB m_h
              replace m_e := hbC HB m_e
              replace m_l := hbC HB m_l
              replace m_d := hbC HB m_d
              replace m_9 := hbC HB m_9
              replace m_f := hbC HB m_f
              replace m_2 := hbC HB m_2
              replace m_b := hbC HB m_b
              replace m_8 := hbC HB m_8
              replace m_5 := hbC HB m_5
              replace m_6 := hbC HB m_6
              replace p813 := eq_true p813
              replace q813 := eq_true q813
              have p814 : 0 ≤ (x9_1 : Int) := of_decide_eq_true (by first | (with_reducible assumption) | assumption)
              have q814 : x9_1 < (l1_1.length : Int) := of_decide_eq_true (by first | (with_reducible assumption) | assumption)
              obtain ⟨d_1, e814, m_a, m_m, m_3, m_o, m_k, m_c, m_i, m_0, m_p, m_j, m_n, m_g, m_1⟩ := Y14 HR1_1.out x9_1 p814 q814
              have q_1q := m_1
              have q_1i := m_g
              have q_19 := m_n
              have q_1a := m_j
              have q_1l := m_p
              have q_1b := m_0
              have q_1r := m_i
              have q_1f := m_c
              have q_17 := m_k
              have q_16 := m_o
              have q_1s := m_3
              have q_18 := m_m
              have q_1c := m_a
              cases e814
              replace m_a := hbC HB m_a
              replace m_m := hbC HB m_m
              replace m_3 := hbC HB m_3
              replace m_o := hbC HB m_o
              replace m_k := hbC HB m_k
              replace m_c := hbC HB m_c
              replace m_i := hbC HB m_i
              replace m_0 := hbC HB m_0
              replace m_p := hbC HB m_p
              replace m_j := hbC HB m_j
              replace m_n := hbC HB m_n
              replace m_g := hbC HB m_g
              replace m_1 := hbC HB m_1
              replace p814 := eq_true p814
              replace q814 := eq_true q814
              refine Y19 (n := 12) (S := fun w' => w'.cell? ⟨g_0, 0, none⟩ = some (.int .i64 a0_0) ∧ w'.cell? ⟨g_0, 1, none⟩ = some (.slice (some d_0) l0_1.length c0_1) ∧ w'.cell? ⟨g_1, 0, none⟩ = some (.int .i64 a1_0) ∧ w'.cell? ⟨g_1, 1, none⟩ = some (.slice (some d_1) l1_1.length c1_1) ∧ w'.cell? (d_0.add ((x8_1).toNat * 13)) = some (.int .i64 ((Y1 l0_1 x8_1).f0.f0)) ∧ w'.cell? ⟨(d_0.add ((x8_1).toNat * 13)).block, (d_0.add ((x8_1).toNat * 13)).off + 1, none⟩ = some (.int .i64 ((Y1 l0_1 x8_1).f0.f1)) ∧ w'.cell? ⟨(d_0.add ((x8_1).toNat * 13)).block, (d_0.add ((x8_1).toNat * 13)).off + 2, none⟩ = some (.int .i64 ((Y1 l0_1 x8_1).f1)) ∧ w'.cell? ⟨(d_0.add ((x8_1).toNat * 13)).block, (d_0.add ((x8_1).toNat * 13)).off + 3, none⟩ = some (.int .i64 ((Y1 l0_1 x8_1).f2.f0)) ∧ w'.cell? ⟨(d_0.add ((x8_1).toNat * 13)).block, (d_0.add ((x8_1).toNat * 13)).off + 4, none⟩ = some (.int .i64 ((Y1 l0_1 x8_1).f2.f1)) ∧ w'.cell? ⟨(d_0.add ((x8_1).toNat * 13)).block, (d_0.add ((x8_1).toNat * 13)).off + 5, none⟩ = some (.bool ((Y1 l0_1 x8_1).f3)) ∧ w'.cell? ⟨(d_0.add ((x8_1).toNat * 13)).block, (d_0.add ((x8_1).toNat * 13)).off + 6, none⟩ = some (.int .i64 ((Y1 l0_1 x8_1).f4.f0)) ∧ w'.cell? ⟨(d_0.add ((x8_1).toNat * 13)).block, (d_0.add ((x8_1).toNat * 13)).off + 7, none⟩ = some (.int .i64 ((Y1 l0_1 x8_1).f4.f1)) ∧ w'.cell? ⟨(d_0.add ((x8_1).toNat * 13)).block, (d_0.add ((x8_1).toNat * 13)).off + 8, none⟩ = some (.int .i64 ((Y1 l0_1 x8_1).f4.f2)) ∧ w'.cell? ⟨(d_0.add ((x8_1).toNat * 13)).block, (d_0.add ((x8_1).toNat * 13)).off + 9, none⟩ = some (.int .i64 ((Y1 l0_1 x8_1).f4.f3)) ∧ w'.cell? ⟨(d_0.add ((x8_1).toNat * 13)).block, (d_0.add ((x8_1).toNat * 13)).off + 10, none⟩ = some (.int .i64 ((Y1 l0_1 x8_1).f4.f4)) ∧ w'.cell? ⟨(d_0.add ((x8_1).toNat * 13)).block, (d_0.add ((x8_1).toNat * 13)).off + 11, none⟩ = some (.int .i64 ((Y1 l0_1 x8_1).f4.f5)) ∧ w'.cell? ⟨(d_0.add ((x8_1).toNat * 13)).block, (d_0.add ((x8_1).toNat * 13)).off + 12, none⟩ = some (.int .i64 ((Y1 l0_1 x8_1).f4.f6)) ∧ w'.cell? (d_1.add ((x9_1).toNat * 13)) = some (.int .i64 ((Y1 l1_1 x9_1).f0.f0)) ∧ w'.cell? ⟨(d_1.add ((x9_1).toNat * 13)).block, (d_1.add ((x9_1).toNat * 13)).off + 1, none⟩ = some (.int .i64 ((Y1 l1_1 x9_1).f0.f1)) ∧ w'.cell? ⟨(d_1.add ((x9_1).toNat * 13)).block, (d_1.add ((x9_1).toNat * 13)).off + 2, none⟩ = some (.int .i64 ((Y1 l1_1 x9_1).f1)) ∧ w'.cell? ⟨(d_1.add ((x9_1).toNat * 13)).block, (d_1.add ((x9_1).toNat * 13)).off + 3, none⟩ = some (.int .i64 ((Y1 l1_1 x9_1).f2.f0)) ∧ w'.cell? ⟨(d_1.add ((x9_1).toNat * 13)).block, (d_1.add ((x9_1).toNat * 13)).off + 4, none⟩ = some (.int .i64 ((Y1 l1_1 x9_1).f2.f1)) ∧ w'.cell? ⟨(d_1.add ((x9_1).toNat * 13)).block, (d_1.add ((x9_1).toNat * 13)).off + 5, none⟩ = some (.bool ((Y1 l1_1 x9_1).f3)) ∧ w'.cell? ⟨(d_1.add ((x9_1).toNat * 13)).block, (d_1.add ((x9_1).toNat * 13)).off + 6, none⟩ = some (.int .i64 ((Y1 l1_1 x9_1).f4.f0)) ∧ w'.cell? ⟨(d_1.add ((x9_1).toNat * 13)).block, (d_1.add ((x9_1).toNat * 13)).off + 7, none⟩ = some (.int .i64 ((Y1 l1_1 x9_1).f4.f1)) ∧ w'.cell? ⟨(d_1.add ((x9_1).toNat * 13)).block, (d_1.add ((x9_1).toNat * 13)).off + 8, none⟩ = some (.int .i64 ((Y1 l1_1 x9_1).f4.f2)) ∧ w'.cell? ⟨(d_1.add ((x9_1).toNat * 13)).block, (d_1.add ((x9_1).toNat * 13)).off + 9, none⟩ = some (.int .i64 ((Y1 l1_1 x9_1).f4.f3)) ∧ w'.cell? ⟨(d_1.add ((x9_1).toNat * 13)).block, (d_1.add ((x9_1).toNat * 13)).off + 10, none⟩ = some (.int .i64 ((Y1 l1_1 x9_1).f4.f4)) ∧ w'.cell? ⟨(d_1.add ((x9_1).toNat * 13)).block, (d_1.add ((x9_1).toNat * 13)).off + 11, none⟩ = some (.int .i64 ((Y1 l1_1 x9_1).f4.f5)) ∧ w'.cell? ⟨(d_1.add ((x9_1).toNat * 13)).block, (d_1.add ((x9_1).toNat * 13)).off + 12, none⟩ = some (.int .i64 ((Y1 l1_1 x9_1).f4.f6))) (ds := []) #[false, false, false, false, false, false, false, false, false, false, false, false] (by kernel_rfl) rfl rfl ⟨(Y2 B_0.out 0).trans rfl, (Y2 B_0.out 1).trans rfl, (Y2 B_1.out 0).trans rfl, (Y2 B_1.out 1).trans rfl, (hbC HB q_1g), (hbC HB q_13), (hbC HB q_1j), (hbC HB q_1e), (hbC HB q_1p), (hbC HB q_1k), (hbC HB q_1o), (hbC HB q_14), (hbC HB q_15), (hbC HB q_1h), (hbC HB q_1m), (hbC HB q_1n), (hbC HB q_1d), (hbC HB q_1c), (hbC HB q_18), (hbC HB q_1s), (hbC HB q_16), (hbC HB q_17), (hbC HB q_1f), (hbC HB q_1r), (hbC HB q_1b), (hbC HB q_1l), (hbC HB q_1a), (hbC HB q_19), (hbC HB q_1i), (hbC HB q_1q)⟩ (fun hHeld => ?_); refine YO Y9.tab16 Y9.bits16 (fun HT_ HW_ => ?_)
              generalize wc.drew = w82 at HO_799001 B_0 B_1 B_3 B_2 HB m_7 m_4 m_8 m_5 m_6 m_h m_e m_l m_d m_9 m_f m_2 m_b m_a m_m m_n m_g m_1 m_3 m_o m_k m_c m_i m_0 m_p m_j hHeld ⊢
              refine puA 0 120 (bs 12 1) ?_
              refine puA 2 122 (bs 12 5) ?_
              refine puA 5 125 (bs 12 37) ?_
              refine puA 7 127 (bs 12 165) ?_
              refine tkA 1 121 (bs 12 167) hHeld ?_
              refine puA 3 123 (bs 12 175) ?_
              refine tkA 4 124 (bs 12 191) hHeld ?_
              refine tkA 6 126 (bs 12 255) hHeld ?_
              refine puA 8 128 (bs 12 511) ?_
              refine tkA 9 129 (bs 12 1023) hHeld ?_
              refine puA 10 130 (bs 12 2047) ?_
              refine puA 11 119 (bs 12 4095) ?_
              refine done_ (Y17 HT_.out (by kernel_rfl)) ?_
              try go_wp2
              replace HO_799001 := Y0.mk (Kd.R_drew HO_799001.out)
              replace B_0 := Y0.mk (Y7 B_0.out)
              replace B_1 := Y0.mk (Y7 B_1.out)
              replace B_3 := Y0.mk (Y7 B_3.out)
              replace B_2 := Y0.mk (Y7 B_2.out)
              replace HB := Y0.mk (Yv HB.out)
              have p815 : 0 ≤ (x8_1 : Int) := of_decide_eq_true (by first | (with_reducible assumption) | assumption)
              have q815 : x8_1 < (l0_1.length : Int) := of_decide_eq_true (by first | (with_reducible assumption) | assumption)
              obtain ⟨d_8, e815, m_27, m_2f, m_29, m_2k, m_37, m_2o, m_2v, m_2r, m_2l, m_2m, m_28, m_2p, m_2a⟩ := Y14 HR0_1.out x8_1 p815 q815
              have q_l := m_2a
              have q_c := m_2p
              have q_3 := m_28
              have q_g := m_2m
              have q_t := m_2l
              have q_6 := m_2r
              have q_7 := m_2v
              have q_r := m_2o
              have q_2 := m_37
              have q_m := m_2k
              have q_n := m_29
              have q_j := m_2f
              have q_v := m_27
              obtain rfl : d_0 = d_8 := (by injection e815)
              replace m_27 := hbC HB m_27
              replace m_2f := hbC HB m_2f
              replace m_29 := hbC HB m_29
              replace m_2k := hbC HB m_2k
              replace m_37 := hbC HB m_37
              replace m_2o := hbC HB m_2o
              replace m_2v := hbC HB m_2v
              replace m_2r := hbC HB m_2r
              replace m_2l := hbC HB m_2l
              replace m_2m := hbC HB m_2m
              replace m_28 := hbC HB m_28
              replace m_2p := hbC HB m_2p
              replace m_2a := hbC HB m_2a
              replace p815 := eq_true p815
              replace q815 := eq_true q815
              refine Y19 (n := 11) (S := fun w' => w'.cell? ⟨g_2, 0, none⟩ = some (.int .i64 a0_0) ∧ w'.cell? ⟨g_2, 1, none⟩ = some (u799001) ∧ w'.cell? ⟨g_0, 0, none⟩ = some (.int .i64 a0_0) ∧ w'.cell? ⟨g_0, 1, none⟩ = some (.slice (some d_0) l0_1.length c0_1) ∧ w'.cell? (d_0.add ((x8_1).toNat * 13)) = some (.int .i64 ((Y1 l0_1 x8_1).f0.f0)) ∧ w'.cell? ⟨(d_0.add ((x8_1).toNat * 13)).block, (d_0.add ((x8_1).toNat * 13)).off + 1, none⟩ = some (.int .i64 ((Y1 l0_1 x8_1).f0.f1)) ∧ w'.cell? ⟨(d_0.add ((x8_1).toNat * 13)).block, (d_0.add ((x8_1).toNat * 13)).off + 2, none⟩ = some (.int .i64 ((Y1 l0_1 x8_1).f1)) ∧ w'.cell? ⟨(d_0.add ((x8_1).toNat * 13)).block, (d_0.add ((x8_1).toNat * 13)).off + 3, none⟩ = some (.int .i64 ((Y1 l0_1 x8_1).f2.f0)) ∧ w'.cell? ⟨(d_0.add ((x8_1).toNat * 13)).block, (d_0.add ((x8_1).toNat * 13)).off + 4, none⟩ = some (.int .i64 ((Y1 l0_1 x8_1).f2.f1)) ∧ w'.cell? ⟨(d_0.add ((x8_1).toNat * 13)).block, (d_0.add ((x8_1).toNat * 13)).off + 5, none⟩ = some (.bool ((Y1 l0_1 x8_1).f3)) ∧ w'.cell? ⟨(d_0.add ((x8_1).toNat * 13)).block, (d_0.add ((x8_1).toNat * 13)).off + 6, none⟩ = some (.int .i64 ((Y1 l0_1 x8_1).f4.f0)) ∧ w'.cell? ⟨(d_0.add ((x8_1).toNat * 13)).block, (d_0.add ((x8_1).toNat * 13)).off + 7, none⟩ = some (.int .i64 ((Y1 l0_1 x8_1).f4.f1)) ∧ w'.cell? ⟨(d_0.add ((x8_1).toNat * 13)).block, (d_0.add ((x8_1).toNat * 13)).off + 8, none⟩ = some (.int .i64 ((Y1 l0_1 x8_1).f4.f2)) ∧ w'.cell? ⟨(d_0.add ((x8_1).toNat * 13)).block, (d_0.add ((x8_1).toNat * 13)).off + 9, none⟩ = some (.int .i64 ((Y1 l0_1 x8_1).f4.f3)) ∧ w'.cell? ⟨(d_0.add ((x8_1).toNat * 13)).block, (d_0.add ((x8_1).toNat * 13)).off + 10, none⟩ = some (.int .i64 ((Y1 l0_1 x8_1).f4.f4)) ∧ w'.cell? ⟨(d_0.add ((x8_1).toNat * 13)).block, (d_0.add ((x8_1).toNat * 13)).off + 11, none⟩ = some (.int .i64 ((Y1 l0_1 x8_1).f4.f5)) ∧ w'.cell? ⟨(d_0.add ((x8_1).toNat * 13)).block, (d_0.add ((x8_1).toNat * 13)).off + 12, none⟩ = some (.int .i64 ((Y1 l0_1 x8_1).f4.f6))) (ds := [10]) #[false, false, false, false, false, false, false, false, false, false, false] (by kernel_rfl) rfl rfl ⟨(Y2 B_2.out 0).trans rfl, (Y2 B_2.out 1).trans rfl, (Y2 B_0.out 0).trans rfl, (Y2 B_0.out 1).trans rfl, (hbC HB q_v), (hbC HB q_j), (hbC HB q_n), (hbC HB q_m), (hbC HB q_2), (hbC HB q_r), (hbC HB q_7), (hbC HB q_6), (hbC HB q_t), (hbC HB q_g), (hbC HB q_3), (hbC HB q_c), (hbC HB q_l)⟩ (fun hHeld => ?_); refine YO Y9.tab7 Y9.bits7 (fun HT_ HW_ => ?_)
              generalize w82.drew = w83 at HO_799001 B_0 B_1 B_3 B_2 HB m_27 m_2f m_28 m_2p m_2a m_29 m_2k m_37 m_2o m_2v m_2r m_2l m_2m hHeld ⊢
              refine puA 0 32 (bs 11 1) ?_
              refine puA 2 34 (bs 11 5) ?_
              refine puA 4 36 (bs 11 21) ?_
              refine tkA 1 33 (bs 11 23) hHeld ?_
              refine tkA 3 35 (bs 11 31) hHeld ?_
              refine puA 5 37 (bs 11 63) ?_
              refine tkA 6 38 (bs 11 127) hHeld ?_
              refine one_ (i := 7) (N := some 39) (bs 11 255) rfl rfl (YH HT_.out (by kernel_rfl)) (by decide) (fun K hK => ?_)
              refine Y3v (w1 := ?_) (v := ?_) (by rfl) rfl ?_ ?_
              rotate_left 2
              ·go_simp
               constructor
               ·rfl
               ·rfl
              refine hK.out _ _ ⟨(Y2 (Y6 B_2.out _) 0).trans rfl, (Y2 (Y6 B_2.out _) 1).trans rfl, (Y2 (Y6 B_0.out _) 0).trans rfl, (Y2 (Y6 B_0.out _) 1).trans rfl, (World.cell?_alloc_lt _ _ _ (World.block_lt_of_cell? _ _ ((hbC HB q_v)))).trans ((hbC HB q_v)), (World.cell?_alloc_lt _ _ _ (World.block_lt_of_cell? _ _ ((hbC HB q_j)))).trans ((hbC HB q_j)), (World.cell?_alloc_lt _ _ _ (World.block_lt_of_cell? _ _ ((hbC HB q_n)))).trans ((hbC HB q_n)), (World.cell?_alloc_lt _ _ _ (World.block_lt_of_cell? _ _ ((hbC HB q_m)))).trans ((hbC HB q_m)), (World.cell?_alloc_lt _ _ _ (World.block_lt_of_cell? _ _ ((hbC HB q_2)))).trans ((hbC HB q_2)), (World.cell?_alloc_lt _ _ _ (World.block_lt_of_cell? _ _ ((hbC HB q_r)))).trans ((hbC HB q_r)), (World.cell?_alloc_lt _ _ _ (World.block_lt_of_cell? _ _ ((hbC HB q_7)))).trans ((hbC HB q_7)), (World.cell?_alloc_lt _ _ _ (World.block_lt_of_cell? _ _ ((hbC HB q_6)))).trans ((hbC HB q_6)), (World.cell?_alloc_lt _ _ _ (World.block_lt_of_cell? _ _ ((hbC HB q_t)))).trans ((hbC HB q_t)), (World.cell?_alloc_lt _ _ _ (World.block_lt_of_cell? _ _ ((hbC HB q_g)))).trans ((hbC HB q_g)), (World.cell?_alloc_lt _ _ _ (World.block_lt_of_cell? _ _ ((hbC HB q_3)))).trans ((hbC HB q_3)), (World.cell?_alloc_lt _ _ _ (World.block_lt_of_cell? _ _ ((hbC HB q_c)))).trans ((hbC HB q_c)), (World.cell?_alloc_lt _ _ _ (World.block_lt_of_cell? _ _ ((hbC HB q_l)))).trans ((hbC HB q_l))⟩ (fun hHeld => ?_)
              clear hK K
              refine nmA 39 ?_
              refine one_ (i := 8) (N := some 40) (bs 11 511) rfl rfl (YH HT_.out (by kernel_rfl)) (by decide) (fun K hK => ?_)
              refine Kd.R_append_step k30 (w0 := w) w.heap.size (by rfl) (.tmp 33) (.tmp 39) 22 30 (.agg #[(.int .i64 0), (.int .i64 0), (.int .i64 0), (.int .i64 0), (.int .i64 0), (.bool false), (.int .i64 0), (.int .i64 0), (.int .i64 0), (.int .i64 0), (.int .i64 0), (.int .i64 0), (.int .i64 0)]) 104 rfl Try.underlying22 Y1H rfl (by decide) (by omega) u799001 x799001_1 (⟨(⟨(Y1 l0_1 x8_1).f0.f0, (Y1 l0_1 x8_1).f0.f1⟩ : S26), (Y1 l0_1 x8_1).f1, (⟨(Y1 l0_1 x8_1).f2.f0, (Y1 l0_1 x8_1).f2.f1⟩ : S26), (Y1 l0_1 x8_1).f3, (⟨(Y1 l0_1 x8_1).f4.f0, (Y1 l0_1 x8_1).f4.f1, (Y1 l0_1 x8_1).f4.f2, (Y1 l0_1 x8_1).f4.f3, (Y1 l0_1 x8_1).f4.f4, (Y1 l0_1 x8_1).f4.f5, (Y1 l0_1 x8_1).f4.f6⟩ : S28)⟩ : S30) [.int .i64 ((Y1 l0_1 x8_1).f0.f0), .int .i64 ((Y1 l0_1 x8_1).f0.f1), .int .i64 ((Y1 l0_1 x8_1).f1), .int .i64 ((Y1 l0_1 x8_1).f2.f0), .int .i64 ((Y1 l0_1 x8_1).f2.f1), .bool ((Y1 l0_1 x8_1).f3), .int .i64 ((Y1 l0_1 x8_1).f4.f0), .int .i64 ((Y1 l0_1 x8_1).f4.f1), .int .i64 ((Y1 l0_1 x8_1).f4.f2), .int .i64 ((Y1 l0_1 x8_1).f4.f3), .int .i64 ((Y1 l0_1 x8_1).f4.f4), .int .i64 ((Y1 l0_1 x8_1).f4.f5), .int .i64 ((Y1 l0_1 x8_1).f4.f6)] (fun _ => True) (fun _ => False) rfl rfl ?aP (fun _ hk => hk.elim) ?aF ?aO ?aB ?aS ?aL ?_
              (case aP => exact Y1h _ _ _ (⟨(⟨(Y1 l0_1 x8_1).f0.f0, (Y1 l0_1 x8_1).f0.f1⟩ : S26), (Y1 l0_1 x8_1).f1, (⟨(Y1 l0_1 x8_1).f2.f0, (Y1 l0_1 x8_1).f2.f1⟩ : S26), (Y1 l0_1 x8_1).f3, (⟨(Y1 l0_1 x8_1).f4.f0, (Y1 l0_1 x8_1).f4.f1, (Y1 l0_1 x8_1).f4.f2, (Y1 l0_1 x8_1).f4.f3, (Y1 l0_1 x8_1).f4.f4, (Y1 l0_1 x8_1).f4.f5, (Y1 l0_1 x8_1).f4.f6⟩ : S28)⟩ : S30))
              (case aB => exact (hU HB.out))
              (case aF => exact (fun _ _ => trivial))
              (case aO => exact (Kd.rU HO_799001.out))
              (case aS => exact (Yh (hU HB.out)))
              (case aL => have := LMc81.out; omega)
              intro v_1 w84 ho hb hg hat
              rw [← Ny816.out] at ho
              have n0_ := Y0.mk (YC (bU B_0.out) hg (Kd.R_ne HO_799001.out B_0.out (by decide)))
              have n1_ := Y0.mk (YC (bU B_1.out) hg (Kd.R_ne HO_799001.out B_1.out (by decide)))
              have n2_ := Y0.mk (YC (bU B_3.out) hg (Kd.R_ne HO_799001.out B_3.out (by decide)))
              have n3_ := Y0.mk (YC (bU B_2.out) hg (Kd.R_ne HO_799001.out B_2.out (by decide)))
              have n4_ := Y0.mk (hb)
              have n5_ := Y0.mk (ho)
              clear B_0
              clear B_1
              clear B_3
              clear B_2
              clear HB
              clear HO_799001
              have B_0 := n0_
              have B_1 := n1_
              have B_3 := n2_
              have B_2 := n3_
              have HB := n4_
              have O_2 := n5_
              clear n0_ n1_ n2_ n3_ n4_ n5_
              clear ho hb hg hat
              obtain ⟨Ao85, co85, eo85⟩ := Kd.R_slice O_2.out
              (first | subst eo85 | (injection eo85 with f1_ f2_ f3_; have f4_ := f1_.symm; have f5_ := f3_.symm; clear f1_ f2_ f3_; subst f4_; subst f5_))
              refine hK.out _ _ ⟨(Y2 B_2.out 0).trans rfl, (Y2 B_2.out 1).trans rfl, (Y2 B_0.out 0).trans rfl, (Y2 B_0.out 1).trans rfl, (hbC HB q_v), (hbC HB q_j), (hbC HB q_n), (hbC HB q_m), (hbC HB q_2), (hbC HB q_r), (hbC HB q_7), (hbC HB q_6), (hbC HB q_t), (hbC HB q_g), (hbC HB q_3), (hbC HB q_c), (hbC HB q_l)⟩ (fun hHeld => ?_)
              clear hK K
              refine nmA 40 ?_
              refine puA 9 41 (bs 11 1023) ?_
              refine last_ (i := 10) (N := none) #[true, true, true, true, true, true, true, true, true, true, true] rfl rfl (YH HT_.out (by kernel_rfl)) (by decide) (fun K hK => ?_)
              have hs86 : w84.cell? ⟨g_2, 1, none⟩ = some (u799001) := (Y2 B_2.out 1).trans rfl
              have hfs86 := Y4 B_2.out 1
              have hns86_0 := N_0.out
              have hns86_1 := N_2.out
              have hns86_2 := N_1.out
              have hms86_0 := N_5.out
              have hms86_1 := N_7.out
              have hms86_2 := N_6.out
              refine skip_ (w1 := ?_) (by rfl) rfl ?_ ?_
              rotate_left
              ·go_simp
               rfl
              refine hK.out _ _ ?_
              clear hK K
              refine done_ (Y17 HT_.out (by kernel_rfl)) ?_
              try go_wp2
              go_roundg kj52
              case measure => have := HK1.out; have := HJ19.out; have := HJ33.out; have := HJ52.out; omega
              case rel => exact ⟨(wrap64 (x8_1 + 1)), (wrap64 (x9_1 + 1)), (x797000_1), (y816), (.slice Ao85 y816.length co85), reS, reS, H', ⟨by have := HK1.out; have := HJ19.out; have := HJ33.out; have := HJ52.out; omega⟩, ⟨by (with_reducible repeat (first | apply Kd.R_alloc | apply Kd.R_drewN | apply Kd.R_drew)); exact Kd.R_mono (Kd.R_far (p := ⟨g_2, 1, none⟩) (Kd.R_types O_2.out B_2.out (by decide)) (fun _ hk => hk.2) (.slice Ao85 y816.length co85)) (fun _ hk => trivial)⟩, ⟨by (with_reducible repeat (first | refine Y8 ?_ _ | refine Y7 ?_ | refine Y6 ?_ _)); refine (Below.heap_setCell _ ⟨_, _, none⟩ _ _ N_0.out).trans ?_; (with_reducible repeat (first | refine Y8 ?_ _ | refine Y7 ?_ | refine Y6 ?_ _)); exact B_0.out⟩, ⟨by (with_reducible repeat (first | refine Y8 ?_ _ | refine Y7 ?_ | refine Y6 ?_ _)); refine (Below.heap_setCell _ ⟨_, _, none⟩ _ _ N_2.out).trans ?_; (with_reducible repeat (first | refine Y8 ?_ _ | refine Y7 ?_ | refine Y6 ?_ _)); exact B_1.out⟩, ⟨by (with_reducible repeat (first | refine Y8 ?_ _ | refine Y7 ?_ | refine Y6 ?_ _)); refine (Below.heap_setCell _ ⟨_, _, none⟩ _ _ N_1.out).trans ?_; (with_reducible repeat (first | refine Y8 ?_ _ | refine Y7 ?_ | refine Y6 ?_ _)); exact B_3.out⟩, ⟨by (with_reducible repeat (first | refine Y8 ?_ _ | refine Y7 ?_ | refine Y6 ?_ _)); refine Yn (cs := #[.int .i64 a0_0, u799001]) ?_ 1 _ rfl; (with_reducible repeat (first | refine Y8 ?_ _ | refine Y7 ?_ | refine Y6 ?_ _)); exact B_2.out⟩, ⟨hU HB.out⟩⟩
      ·replace c33 := Bool.eq_false_iff.mpr c33
       subst c33
       have H1 : (if (x799001_1.length : Int) > 512 then (some (0, ([] : List (S30)), 3)) else (some (a0_0, x799001_1, 0))) = some (r1, r2, r3) := by rw [if_neg (show ¬ (false = true) by decide)] at H; exact H
       clear H
       have H := H1
       clear H1
       by_cases c87 : (x799001_1.length : Int) > 512
       ·rw [if_pos c87] at H
        have c87b0 := decide_eq_true c87
        have c87b1 : decide (512 < x799001_1.length) = true := decide_eq_true (by omega)
        clear c87
        simp only [Option.some.injEq, Prod.mk.injEq] at H
        obtain ⟨rfl, rfl, rfl⟩ := H
        have hnb88 := N_5.out
        have hnc88 := N_0.out
        have hnb89 := N_7.out
        have hnc89 := N_2.out
        have hnb90 := N_6.out
        have hnc90 := N_1.out
        have z_b := Y2 B_2.out
        have f_j := Y4 B_2.out
        obtain ⟨Ao92, co92, eo92⟩ := Kd.R_slice HO_799001.out
        subst eo92
        have hnb93 := N_3.out
        have hnc93 := N_4.out
        have hnb94 := N_9.out
        have hnc94 := N_8.out
        have z_c := Y2 B_3.out
        have f_c := Y4 B_3.out
        go_wp2
        refine bodyPost_ret (YZ rfl _ _ g_3 24 #[.int .i64 0, .slice none 0 0] (0, 0) _ rfl (by (with_reducible repeat (first | refine Y8 ?_ _ | refine Y7 ?_ | refine Y6 ?_ _)); refine Yn (cs := #[.int .i64 0, .slice none 0 0]) ?_ 1 _ rfl; (with_reducible repeat (first | refine Y8 ?_ _ | refine Y7 ?_ | refine Y6 ?_ _)); refine Yn (cs := #[.int .i64 x797000_1, .slice none 0 0]) ?_ 0 _ rfl; (with_reducible repeat (first | refine Y8 ?_ _ | refine Y7 ?_ | refine Y6 ?_ _)); exact B_3.out) Try.underlying24 rfl (by kernel_rfl)) rfl ?_
        exact ⟨_, reT, by first | exact Kd.R_nil _ _ _ _ _ | exact Kd.N_nil _ _ _ _ _ | exact Kd.V_nil _ _ _ _ _ | exact Kd.Q_nil _ _ _ _ _ | exact Kd.S_nil _ _ _ _ _, hU HB.out⟩
       ·rw [if_neg c87] at H
        have c87b0 := decide_eq_false c87
        have c87b1 : decide (512 < x799001_1.length) = false := decide_eq_false (by omega)
        clear c87
        simp only [Option.some.injEq, Prod.mk.injEq] at H
        obtain ⟨rfl, rfl, rfl⟩ := H
        have hnb96 := N_5.out
        have hnc96 := N_0.out
        have hnb97 := N_7.out
        have hnc97 := N_2.out
        have hnb98 := N_6.out
        have hnc98 := N_1.out
        have z_i := Y2 B_2.out
        have f_h := Y4 B_2.out
        obtain ⟨Ao100, co100, eo100⟩ := Kd.R_slice HO_799001.out
        subst eo100
        have hnb101 := N_3.out
        have hnc101 := N_4.out
        have hnb102 := N_9.out
        have hnc102 := N_8.out
        have z_j := Y2 B_3.out
        have f_e := Y4 B_3.out
        go_wp2
        refine bodyPost_ret (YZ rfl _ _ g_3 24 #[.int .i64 a0_0, .slice Ao100 x799001_1.length co100] (0, 0) _ rfl (by (with_reducible repeat (first | refine Y8 ?_ _ | refine Y7 ?_ | refine Y6 ?_ _)); refine Yn (cs := #[.int .i64 a0_0, .slice none 0 0]) ?_ 1 _ rfl; (with_reducible repeat (first | refine Y8 ?_ _ | refine Y7 ?_ | refine Y6 ?_ _)); refine Yn (cs := #[.int .i64 x797000_1, .slice none 0 0]) ?_ 0 _ rfl; (with_reducible repeat (first | refine Y8 ?_ _ | refine Y7 ?_ | refine Y6 ?_ _)); exact B_3.out) Try.underlying24 rfl (by kernel_rfl)) rfl ?_
        exact ⟨_, reT, by (with_reducible repeat (first | apply Kd.R_alloc | apply Kd.R_drewN | apply Kd.R_drew)); exact Kd.R_mono (Kd.R_far (p := ⟨g_3, 1, none⟩) (Kd.R_far (p := ⟨g_3, 0, none⟩) (Kd.R_types HO_799001.out B_3.out (by decide)) (fun _ hk => hk.2) (.int .i64 a0_0)) (fun _ hk => hk.2) (.slice Ao100 x799001_1.length co100)) (fun _ hk => trivial), hU HB.out⟩
 ·rw [if_neg c4] at H
  have c4b0 := bqF c4
  have c4b1 := bnT c4
  simp only [Option.some.injEq, Prod.mk.injEq] at H
  obtain ⟨rfl, rfl, rfl⟩ := H
  go_enter Try.func31, Try.ntmps31
  go_wp2_with (first | ((with_reducible refine Ye (N := 2) rfl ?_); (try (refine YD (by rfl) ?_; dsimp only)); refine Yf ?hg (N := 2) ?hd (cs := #[.int .i64 a0_0, .slice A0_1 l0_1.length c0_1]) (t := 24) ?hr ?_; (case hd => rfl); (case hg => rfl); (case hr => first | (go_simp; done) | (go_simp; rfl)); intro g_0 hg w104 hbox hb; have n0_ := Y0.mk (Y5 (hU HB.out) hb); have n1_ := Y0.mk (hbox); have n2_ := gE hg HB; have n3_ := gE hg HB; clear HB; have HB := n0_; have B_0 := n1_; have W_0 := n2_; have G_0 := n3_; clear n0_ n1_ n2_ n3_; clear hb hbox hg) | ((with_reducible refine Ye (N := 3) rfl ?_); (try (refine YD (by rfl) ?_; dsimp only)); refine Yf ?hg (N := 3) ?hd (cs := #[.int .i64 a1_0, .slice A1_1 l1_1.length c1_1]) (t := 24) ?hr ?_; (case hd => rfl); (case hg => rfl); (case hr => first | (go_simp; done) | (go_simp; rfl)); intro g_1 hg w105 hbox hb; have n0_ := Y0.mk (Y3 (bU B_0.out) hb); have n1_ := Y0.mk (Y5 (hU HB.out) hb); have n2_ := Y0.mk (hbox); have n3_ := gE hg HB; have n4_ := gE hg HB; have n5_ := gL hg B_0; have n6_ := gG hg B_0; clear B_0; clear HB; have B_0 := n0_; have HB := n1_; have B_1 := n2_; have W_2 := n3_; have G_2 := n4_; have N_b := n5_; have N_a := n6_; clear n0_ n1_ n2_ n3_ n4_ n5_ n6_; clear hb hbox hg) | ((with_reducible refine Ye (N := 4) rfl ?_); (try (refine YD (by rfl) ?_; dsimp only)); refine Yf ?hg (N := 4) ?hd (cs := #[.int .i64 0, .slice none 0 0]) (t := 24) ?hr ?_; (case hd => rfl); (case hg => rfl); (case hr => first | (go_simp; done) | (go_simp; rfl)); intro g_3 hg w106 hbox hb; have n0_ := Y0.mk (Y3 (bU B_0.out) hb); have n1_ := Y0.mk (Y3 (bU B_1.out) hb); have n2_ := Y0.mk (Y5 (hU HB.out) hb); have n3_ := Y0.mk (hbox); have n4_ := gE hg HB; have n5_ := gE hg HB; have n6_ := gL hg B_0; have n7_ := gG hg B_0; have n8_ := gL hg B_1; have n9_ := gG hg B_1; clear B_0; clear B_1; clear HB; have B_0 := n0_; have B_1 := n1_; have HB := n2_; have B_3 := n3_; have W_1 := n4_; have G_1 := n5_; have N_4 := n6_; have N_3 := n7_; have N_8 := n8_; have N_9 := n9_; clear n0_ n1_ n2_ n3_ n4_ n5_ n6_ n7_ n8_ n9_; clear hb hbox hg; have hnb107 := N_b.out; have hnc107 := N_a.out; have hnb108 := N_4.out; have hnc108 := N_3.out; have z_g := Y2 B_0.out; have f_g := Y4 B_0.out; have hnb110 := N_8.out; have hnc110 := N_9.out; have z_e := Y2 B_1.out; have f_i := Y4 B_1.out) | ((with_reducible refine Yd (f := 76) rfl ?_); refine goesA (some 12) Try.func76 #[.agg #[.int .i64 a0_0, .slice A0_1 l0_1.length c0_1], .agg #[.int .i64 a1_0, .slice A1_1 l1_1.length c1_1]] ?_; (with_reducible refine (YK.calls a0_0 _ _ l0_1 a1_0 _ _ l1_1 t_0 _ ?side1 ?side2 ?side3 ?side4 A3.out).mono ?_); (case side1 => repeat (first | exact (Kd.C_below HR0_1.out HB.out) | (with_reducible refine Kd.C_alloc ?_ _) | (with_reducible refine Kd.C_drewN ?_ _) | (with_reducible refine Kd.C_drew ?_))); (case side2 => exact HC0_1.out); (case side3 => repeat (first | exact (Kd.C_below HR1_1.out HB.out) | (with_reducible refine Kd.C_alloc ?_ _) | (with_reducible refine Kd.C_drewN ?_ _) | (with_reducible refine Kd.C_drew ?_))); (case side4 => exact HC1_1.out); rintro e w112 ⟨rfl, hb⟩; refine ⟨_, rfl, ?_⟩; replace B_0 := Y0.mk (Y3 (bU B_0.out) hb); replace B_1 := Y0.mk (Y3 (bU B_1.out) hb); replace B_3 := Y0.mk (Y3 (bU B_3.out) hb); replace HB := Y0.mk (Y5 (hU HB.out) hb); (try clear hb); (try clear hb2); (try clear hk); (try clear hi); have z_f := Y2 B_3.out; have f_d := Y4 B_3.out))
  refine bodyPost_ret (YZ rfl _ _ g_3 24 #[.int .i64 0, .slice none 0 0] (0, 0) _ rfl (by (with_reducible repeat (first | refine Y8 ?_ _ | refine Y7 ?_ | refine Y6 ?_ _)); refine Yn (cs := #[.int .i64 0, .slice none 0 0]) ?_ 1 _ rfl; (with_reducible repeat (first | refine Y8 ?_ _ | refine Y7 ?_ | refine Y6 ?_ _)); refine Yn (cs := #[.int .i64 0, .slice none 0 0]) ?_ 0 _ rfl; (with_reducible repeat (first | refine Y8 ?_ _ | refine Y7 ?_ | refine Y6 ?_ _)); exact B_3.out) Try.underlying24 rfl (by kernel_rfl)) rfl ?_
  exact ⟨_, reT, by first | exact Kd.R_nil _ _ _ _ _ | exact Kd.N_nil _ _ _ _ _ | exact Kd.V_nil _ _ _ _ _ | exact Kd.Q_nil _ _ _ _ _ | exact Kd.S_nil _ _ _ _ _, hU HB.out⟩
end Go.Proofs.Yteopkkoblbmggaa.P
end

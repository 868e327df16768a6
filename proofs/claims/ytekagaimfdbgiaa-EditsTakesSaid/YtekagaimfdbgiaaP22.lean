-- Written by a program of this session (myprint.py over the kit's print): the Go functions of the seat as Lean functions, and what their calls do.
import Derived.Test.YtekagaimfdbgiaaP0
import Derived.Test.YtekagaimfdbgiaaP1
import Derived.Test.YtekagaimfdbgiaaP4
import Derived.Test.YtekagaimfdbgiaaP10
import Derived.Test.YtekagaimfdbgiaaP16
import Derived.Test.YtekagaimfdbgiaaP17
import Derived.Test.YtekagaimfdbgiaaP21
namespace Go.Proofs.Ytekagaimfdbgiaa.P
open Go.RowKit Go.Proofs.YtekagaimfdbgiaaW.PrintWords Go.Proofs.YtekagaimfdbgiaaW.PrintLast Go.Proofs.YtekagaimfdbgiaaW.PrintMore
attribute [local go_sem] max2_int min2_int max_two min_two max_three min_three max_four min_four   -- for this text's walks alone
set_option linter.unusedVariables false
set_option linter.unusedSimpArgs false

attribute [local go_sem high] eqA23
/-! ### dancestudiolaw56_awake: function 16 -/
def dancestudiolaw56_awake.f (k : Nat)  : Option (Bool) := (dancestudiolaw56_stamp.f 5 1).bind fun bt250 => ((dancestudiolaw56_stamp.f 3 1).bind fun bt252 => ((dancestudiolaw56_stamp.f 1 1).bind fun bt255 => ((dancestudiolaw56_stamp.f 1 1).bind fun bt257 => ((edits_Put.f k bt250.1 bt250.2 2 bt252.1 bt252.2 true 0 0 0 0 0 0 0).bind fun bt260 => ((edits_Put.f k bt255.1 bt255.2 0 bt257.1 bt257.2 false 2 0 0 8 0 0 0).bind fun bt264 => (if bt260.2 = 0 then (if bt264.2 = 0 then ((dancestudioref07_Bytes.f bt260.1 (([10, 2, 4, 6, 2, 2] : List Int))).bind fun t271 => (if t271 = true then ((dancestudioref07_Bytes.f bt264.1 (([2, 2, 0, 2, 2, 0, 4, 0, 0, 16, 0, 0, 0] : List Int))).bind fun t275 => (if t275 = true then ((dancestudiolaw56_takes.f k bt250.1 bt250.2 2 bt252.1 bt252.2 true 0 0 0 0 0 0 0 0 (([10, 2, 4, 6, 2, 2] : List Int))).bind fun t279 => (if t279 = true then ((dancestudiolaw56_takes.f k 0 0 0 0 0 false 0 0 0 0 0 0 0 2 (([10, 2, 4, 6, 2, 4] : List Int))).bind fun t283 => (if t283 = true then ((dancestudiolaw56_takes.f k 0 0 0 0 0 false 0 0 0 0 0 0 0 2 (([10, 2, 4, 6, 2, 2, 0] : List Int))).bind fun t287 => (if t287 = true then ((dancestudiolaw56_takes.f k 0 0 0 0 0 false 0 0 0 0 0 0 0 13 (([10, 2, 4, 6, 2] : List Int))).bind fun t291 => (if t291 = true then ((dancestudiolaw56_takes.f k 0 0 0 0 0 false 0 0 0 0 0 0 0 43 (([10, 2, 4, 12, 2, 2] : List Int))).bind fun t295 => (if t295 = true then ((dancestudiolaw56_stamp.f 5 1).bind fun bt296 => ((dancestudiolaw56_stamp.f 3 2).bind fun bt298 => ((edits_Next.f k 2 (([(⟨bt296.1, bt296.2⟩ : S23), (⟨bt298.1, bt298.2⟩ : S23)] : List (S23)))).bind fun bt303 => ((edits_Next.f k 65 ([] : List (S23))).bind fun bt307 => ((dancestudiolaw56_stamp.f 1000000 1).bind fun bt310 => ((edits_Next.f k 1 (([(⟨bt310.1, bt310.2⟩ : S23)] : List (S23)))).bind fun bt315 => ((dancestudiolaw56_stamp.f 6 2).bind fun bt319 => (if (bt303.1 == bt319.1 && (bt303.2.1 == bt319.2)) = true then (if bt303.2.2 = 0 then (if bt307.2.2 = 43 then (if bt315.2.2 = 43 then ((dancestudiolaw56_stamp.f 5 1).bind fun bt321 => ((dancestudiolaw56_stamp.f 5 2).bind fun bt323 => ((edits_Less.f bt321.1 bt321.2 bt323.1 bt323.2).bind fun t325 => (if t325 = true then ((dancestudiolaw56_stamp.f 5 2).bind fun bt326 => ((dancestudiolaw56_stamp.f 6 1).bind fun bt328 => ((edits_Less.f bt326.1 bt326.2 bt328.1 bt328.2).bind fun t330 => (if t330 = true then ((dancestudiolaw56_stamp.f 5 1).bind fun bt331 => ((dancestudiolaw56_stamp.f 5 1).bind fun bt333 => ((edits_Less.f bt331.1 bt331.2 bt333.1 bt333.2).bind fun t335 => (some (!t335))))) else (none))))) else (none))))) else (none)) else (none)) else (none)) else (none))))))))) else (none))) else (none))) else (none))) else (none))) else (none))) else (none))) else (none))) else (none)) else (none)))))))
theorem dancestudiolaw56_awake.mono : ∀ k, LeO (dancestudiolaw56_awake.f k ) (dancestudiolaw56_awake.f (k + 1) ) := by
  intro  k
  unfold dancestudiolaw56_awake.f
  repeat' first
      | (with_reducible exact dancestudiolaw56_takes.mono _ _ _ _ _ _ _ _ _ _ _ _ _ _ _ _)
      | (with_reducible exact edits_Next.mono _ _ _)
      | (with_reducible exact edits_Put.mono _ _ _ _ _ _ _ _ _ _ _ _ _ _)
      | (with_reducible exact LeO.refl _)
      | (with_reducible exact LeO.none _)
      | (with_reducible refine LeO.ite ?_ ?_)
      | (with_reducible refine LeO.bind ?_ (fun _ => ?_))
      | exact dancestudiolaw56_takes.mono _ _ _ _ _ _ _ _ _ _ _ _ _ _ _ _
      | exact edits_Next.mono _ _ _
      | exact edits_Put.mono _ _ _ _ _ _ _ _ _ _ _ _ _ _
      | exact LeO.none _
      | refine LeO.ite ?_ ?_
      | refine LeO.bind ?_ (fun _ => ?_)
def dancestudiolaw56_awake.T12 : Bool × List (List Nat × List Nat) := (true, [([], []), ([], []), ([0, 1], [0, 1]), ([2, 1], [2]), ([3], [3]), ([4, 3], [3, 4]), ([3, 5], [3, 5]), ([6, 3], [6]), ([7], [7]), ([8, 7], [7, 8]), ([7, 9], [7, 9]), ([10, 7], [10]), ([11], [11]), ([12, 11], [11, 12]), ([11, 13], [11, 13]), ([14, 11], [14]), ([15, 15], [15]), ([16, 15], [15]), ([16, 17, 17, 15], [15, 16, 17]), ([15, 18], [15, 18]), ([19, 18], [19]), ([20, 20], [20]), ([21, 20], [20]), ([21, 22, 22, 20], [20, 21, 22]), ([20, 23], [20, 23]), ([24, 23], [24]), ([25, 25], [25]), ([26, 25], [25]), ([26, 27, 27, 25], [25, 26, 27]), ([28, 25], [25, 28]), ([25, 29], [25, 29]), ([30, 28, 0, 1, 2, 3, 4, 5, 6, 7, 8, 9, 10, 11, 12, 13, 14, 15, 16, 17, 18, 19, 20, 21, 22, 23, 24, 25, 26, 27, 28, 29, 30], [30])])
def dancestudiolaw56_awake.B12 : List Nat := [0, 0, 3, 7, 15, 31, 63, 127, 255, 511, 1023, 2047, 4095, 8191, 16383, 32767, 65535, 131071, 262143, 524287, 1048575, 2097151, 4194303, 8388607, 16777215, 33554431, 67108863, 134217727, 268435455, 536870911, 1073741823, 2147483647]
theorem dancestudiolaw56_awake.tab12 : rtab .any (opsOf Try.f16 12) = dancestudiolaw56_awake.T12 := by kernel_rfl
theorem dancestudiolaw56_awake.bits12 : waitsOk dancestudiolaw56_awake.T12.2 dancestudiolaw56_awake.B12 = true := by kernel_rfl
set_option maxHeartbeats 8000000 in
set_option maxRecDepth 100000 in
theorem dancestudiolaw56_awake.calls (k : Nat)  (r : Bool) (w : World) (h : dancestudiolaw56_awake.f k  = some r) :
    Calls Try.prog 16 #[] w fun e w' => e = .returned (.bool r) ∧ Below w.heap.size w w' := by
  have hu27 := Try.underlying27
  have hu25 := Try.underlying25
  have hu23 := Try.underlying23
  have HB := Aside0.mk (Below.refl w.heap.size w)
  have H : ((dancestudiolaw56_stamp.f 5 1).bind fun bt250 => ((dancestudiolaw56_stamp.f 3 1).bind fun bt252 => ((dancestudiolaw56_stamp.f 1 1).bind fun bt255 => ((dancestudiolaw56_stamp.f 1 1).bind fun bt257 => ((edits_Put.f k bt250.1 bt250.2 2 bt252.1 bt252.2 true 0 0 0 0 0 0 0).bind fun bt260 => ((edits_Put.f k bt255.1 bt255.2 0 bt257.1 bt257.2 false 2 0 0 8 0 0 0).bind fun bt264 => (if bt260.2 = 0 then (if bt264.2 = 0 then ((dancestudioref07_Bytes.f bt260.1 (([10, 2, 4, 6, 2, 2] : List Int))).bind fun t271 => (if t271 = true then ((dancestudioref07_Bytes.f bt264.1 (([2, 2, 0, 2, 2, 0, 4, 0, 0, 16, 0, 0, 0] : List Int))).bind fun t275 => (if t275 = true then ((dancestudiolaw56_takes.f k bt250.1 bt250.2 2 bt252.1 bt252.2 true 0 0 0 0 0 0 0 0 (([10, 2, 4, 6, 2, 2] : List Int))).bind fun t279 => (if t279 = true then ((dancestudiolaw56_takes.f k 0 0 0 0 0 false 0 0 0 0 0 0 0 2 (([10, 2, 4, 6, 2, 4] : List Int))).bind fun t283 => (if t283 = true then ((dancestudiolaw56_takes.f k 0 0 0 0 0 false 0 0 0 0 0 0 0 2 (([10, 2, 4, 6, 2, 2, 0] : List Int))).bind fun t287 => (if t287 = true then ((dancestudiolaw56_takes.f k 0 0 0 0 0 false 0 0 0 0 0 0 0 13 (([10, 2, 4, 6, 2] : List Int))).bind fun t291 => (if t291 = true then ((dancestudiolaw56_takes.f k 0 0 0 0 0 false 0 0 0 0 0 0 0 43 (([10, 2, 4, 12, 2, 2] : List Int))).bind fun t295 => (if t295 = true then ((dancestudiolaw56_stamp.f 5 1).bind fun bt296 => ((dancestudiolaw56_stamp.f 3 2).bind fun bt298 => ((edits_Next.f k 2 (([(⟨bt296.1, bt296.2⟩ : S23), (⟨bt298.1, bt298.2⟩ : S23)] : List (S23)))).bind fun bt303 => ((edits_Next.f k 65 ([] : List (S23))).bind fun bt307 => ((dancestudiolaw56_stamp.f 1000000 1).bind fun bt310 => ((edits_Next.f k 1 (([(⟨bt310.1, bt310.2⟩ : S23)] : List (S23)))).bind fun bt315 => ((dancestudiolaw56_stamp.f 6 2).bind fun bt319 => (if (bt303.1 == bt319.1 && (bt303.2.1 == bt319.2)) = true then (if bt303.2.2 = 0 then (if bt307.2.2 = 43 then (if bt315.2.2 = 43 then ((dancestudiolaw56_stamp.f 5 1).bind fun bt321 => ((dancestudiolaw56_stamp.f 5 2).bind fun bt323 => ((edits_Less.f bt321.1 bt321.2 bt323.1 bt323.2).bind fun t325 => (if t325 = true then ((dancestudiolaw56_stamp.f 5 2).bind fun bt326 => ((dancestudiolaw56_stamp.f 6 1).bind fun bt328 => ((edits_Less.f bt326.1 bt326.2 bt328.1 bt328.2).bind fun t330 => (if t330 = true then ((dancestudiolaw56_stamp.f 5 1).bind fun bt331 => ((dancestudiolaw56_stamp.f 5 1).bind fun bt333 => ((edits_Less.f bt331.1 bt331.2 bt333.1 bt333.2).bind fun t335 => (some (!t335))))) else (none))))) else (none))))) else (none)) else (none)) else (none)) else (none))))))))) else (none))) else (none))) else (none))) else (none))) else (none))) else (none))) else (none))) else (none)) else (none)))))))) = some r := h
  clear h
  replace H := Option.bind_eq_some_iff.mp H
  obtain ⟨⟨t250, t251⟩, A10, H⟩ := H
  try dsimp only at H
  have A1 := Aside0.mk A10
  clear A10
  replace H := Option.bind_eq_some_iff.mp H
  obtain ⟨⟨t252, t253⟩, A20, H⟩ := H
  try dsimp only at H
  have A2 := Aside0.mk A20
  clear A20
  replace H := Option.bind_eq_some_iff.mp H
  obtain ⟨⟨t255, t256⟩, A30, H⟩ := H
  try dsimp only at H
  have A3 := Aside0.mk A30
  clear A30
  replace H := Option.bind_eq_some_iff.mp H
  obtain ⟨⟨t257, t258⟩, A40, H⟩ := H
  try dsimp only at H
  have A4 := Aside0.mk A40
  clear A40
  replace H := Option.bind_eq_some_iff.mp H
  obtain ⟨⟨t260, t263⟩, A50, H⟩ := H
  try dsimp only at H
  have A5 := Aside0.mk A50
  clear A50
  replace H := Option.bind_eq_some_iff.mp H
  obtain ⟨⟨t264, t267⟩, A60, H⟩ := H
  try dsimp only at H
  have A6 := Aside0.mk A60
  clear A60
  by_cases c7 : t263 = 0
  · rw [if_pos c7] at H
    have c7b0 : (t263 == 0) = true := beq_iff_eq.mpr c7
    have c7b1 : (t263 != 0) = false := bne_eq_false_iff_eq.mpr c7
    clear c7
    by_cases c8 : t267 = 0
    · rw [if_pos c8] at H
      have c8b0 : (t267 == 0) = true := beq_iff_eq.mpr c8
      have c8b1 : (t267 != 0) = false := bne_eq_false_iff_eq.mpr c8
      clear c8
      obtain ⟨y268, hy268⟩ : ∃ y_ : List Int, y_ = (([10, 2, 4, 6, 2, 2] : List Int)) := ⟨_, rfl⟩
      replace H : ((dancestudioref07_Bytes.f t260 y268).bind fun t271 => (if t271 = true then ((dancestudioref07_Bytes.f t264 (([2, 2, 0, 2, 2, 0, 4, 0, 0, 16, 0, 0, 0] : List Int))).bind fun t275 => (if t275 = true then ((dancestudiolaw56_takes.f k t250 t251 2 t252 t253 true 0 0 0 0 0 0 0 0 (([10, 2, 4, 6, 2, 2] : List Int))).bind fun t279 => (if t279 = true then ((dancestudiolaw56_takes.f k 0 0 0 0 0 false 0 0 0 0 0 0 0 2 (([10, 2, 4, 6, 2, 4] : List Int))).bind fun t283 => (if t283 = true then ((dancestudiolaw56_takes.f k 0 0 0 0 0 false 0 0 0 0 0 0 0 2 (([10, 2, 4, 6, 2, 2, 0] : List Int))).bind fun t287 => (if t287 = true then ((dancestudiolaw56_takes.f k 0 0 0 0 0 false 0 0 0 0 0 0 0 13 (([10, 2, 4, 6, 2] : List Int))).bind fun t291 => (if t291 = true then ((dancestudiolaw56_takes.f k 0 0 0 0 0 false 0 0 0 0 0 0 0 43 (([10, 2, 4, 12, 2, 2] : List Int))).bind fun t295 => (if t295 = true then ((dancestudiolaw56_stamp.f 5 1).bind fun bt296 => ((dancestudiolaw56_stamp.f 3 2).bind fun bt298 => ((edits_Next.f k 2 (([(⟨bt296.1, bt296.2⟩ : S23), (⟨bt298.1, bt298.2⟩ : S23)] : List (S23)))).bind fun bt303 => ((edits_Next.f k 65 ([] : List (S23))).bind fun bt307 => ((dancestudiolaw56_stamp.f 1000000 1).bind fun bt310 => ((edits_Next.f k 1 (([(⟨bt310.1, bt310.2⟩ : S23)] : List (S23)))).bind fun bt315 => ((dancestudiolaw56_stamp.f 6 2).bind fun bt319 => (if (bt303.1 == bt319.1 && (bt303.2.1 == bt319.2)) = true then (if bt303.2.2 = 0 then (if bt307.2.2 = 43 then (if bt315.2.2 = 43 then ((dancestudiolaw56_stamp.f 5 1).bind fun bt321 => ((dancestudiolaw56_stamp.f 5 2).bind fun bt323 => ((edits_Less.f bt321.1 bt321.2 bt323.1 bt323.2).bind fun t325 => (if t325 = true then ((dancestudiolaw56_stamp.f 5 2).bind fun bt326 => ((dancestudiolaw56_stamp.f 6 1).bind fun bt328 => ((edits_Less.f bt326.1 bt326.2 bt328.1 bt328.2).bind fun t330 => (if t330 = true then ((dancestudiolaw56_stamp.f 5 1).bind fun bt331 => ((dancestudiolaw56_stamp.f 5 1).bind fun bt333 => ((edits_Less.f bt331.1 bt331.2 bt333.1 bt333.2).bind fun t335 => (some (!t335))))) else (none))))) else (none))))) else (none)) else (none)) else (none)) else (none))))))))) else (none))) else (none))) else (none))) else (none))) else (none))) else (none))) else (none))) = some r := by first | (rw [hy268]; with_reducible exact H) | (have H2_ := (Option.bind_some _ _).symm.trans H; rw [hy268]; with_reducible exact H2_) | (have H2_ := (Option.bind_some _ _).symm.trans H; with_reducible exact H2_) | with_reducible exact H | (rw [hy268]; exact H) | exact H
      have Ny268 := Aside0.mk hy268
      clear hy268
      replace H := Option.bind_eq_some_iff.mp H
      obtain ⟨t271, A90, H⟩ := H
      try dsimp only at H
      have A9 := Aside0.mk A90
      clear A90
      by_cases c10 : t271 = true
      · subst c10
        rw [if_pos rfl] at H
        obtain ⟨y272, hy272⟩ : ∃ y_ : List Int, y_ = (([2, 2, 0, 2, 2, 0, 4, 0, 0, 16, 0, 0, 0] : List Int)) := ⟨_, rfl⟩
        replace H : ((dancestudioref07_Bytes.f t264 y272).bind fun t275 => (if t275 = true then ((dancestudiolaw56_takes.f k t250 t251 2 t252 t253 true 0 0 0 0 0 0 0 0 (([10, 2, 4, 6, 2, 2] : List Int))).bind fun t279 => (if t279 = true then ((dancestudiolaw56_takes.f k 0 0 0 0 0 false 0 0 0 0 0 0 0 2 (([10, 2, 4, 6, 2, 4] : List Int))).bind fun t283 => (if t283 = true then ((dancestudiolaw56_takes.f k 0 0 0 0 0 false 0 0 0 0 0 0 0 2 (([10, 2, 4, 6, 2, 2, 0] : List Int))).bind fun t287 => (if t287 = true then ((dancestudiolaw56_takes.f k 0 0 0 0 0 false 0 0 0 0 0 0 0 13 (([10, 2, 4, 6, 2] : List Int))).bind fun t291 => (if t291 = true then ((dancestudiolaw56_takes.f k 0 0 0 0 0 false 0 0 0 0 0 0 0 43 (([10, 2, 4, 12, 2, 2] : List Int))).bind fun t295 => (if t295 = true then ((dancestudiolaw56_stamp.f 5 1).bind fun bt296 => ((dancestudiolaw56_stamp.f 3 2).bind fun bt298 => ((edits_Next.f k 2 (([(⟨bt296.1, bt296.2⟩ : S23), (⟨bt298.1, bt298.2⟩ : S23)] : List (S23)))).bind fun bt303 => ((edits_Next.f k 65 ([] : List (S23))).bind fun bt307 => ((dancestudiolaw56_stamp.f 1000000 1).bind fun bt310 => ((edits_Next.f k 1 (([(⟨bt310.1, bt310.2⟩ : S23)] : List (S23)))).bind fun bt315 => ((dancestudiolaw56_stamp.f 6 2).bind fun bt319 => (if (bt303.1 == bt319.1 && (bt303.2.1 == bt319.2)) = true then (if bt303.2.2 = 0 then (if bt307.2.2 = 43 then (if bt315.2.2 = 43 then ((dancestudiolaw56_stamp.f 5 1).bind fun bt321 => ((dancestudiolaw56_stamp.f 5 2).bind fun bt323 => ((edits_Less.f bt321.1 bt321.2 bt323.1 bt323.2).bind fun t325 => (if t325 = true then ((dancestudiolaw56_stamp.f 5 2).bind fun bt326 => ((dancestudiolaw56_stamp.f 6 1).bind fun bt328 => ((edits_Less.f bt326.1 bt326.2 bt328.1 bt328.2).bind fun t330 => (if t330 = true then ((dancestudiolaw56_stamp.f 5 1).bind fun bt331 => ((dancestudiolaw56_stamp.f 5 1).bind fun bt333 => ((edits_Less.f bt331.1 bt331.2 bt333.1 bt333.2).bind fun t335 => (some (!t335))))) else (none))))) else (none))))) else (none)) else (none)) else (none)) else (none))))))))) else (none))) else (none))) else (none))) else (none))) else (none))) else (none))) = some r := by first | (rw [hy272]; with_reducible exact H) | (have H2_ := (Option.bind_some _ _).symm.trans H; rw [hy272]; with_reducible exact H2_) | (have H2_ := (Option.bind_some _ _).symm.trans H; with_reducible exact H2_) | with_reducible exact H | (rw [hy272]; exact H) | exact H
        have Ny272 := Aside0.mk hy272
        clear hy272
        replace H := Option.bind_eq_some_iff.mp H
        obtain ⟨t275, A110, H⟩ := H
        try dsimp only at H
        have A11 := Aside0.mk A110
        clear A110
        by_cases c12 : t275 = true
        · subst c12
          rw [if_pos rfl] at H
          obtain ⟨y276, hy276⟩ : ∃ y_ : List Int, y_ = (([10, 2, 4, 6, 2, 2] : List Int)) := ⟨_, rfl⟩
          replace H : ((dancestudiolaw56_takes.f k t250 t251 2 t252 t253 true 0 0 0 0 0 0 0 0 y276).bind fun t279 => (if t279 = true then ((dancestudiolaw56_takes.f k 0 0 0 0 0 false 0 0 0 0 0 0 0 2 (([10, 2, 4, 6, 2, 4] : List Int))).bind fun t283 => (if t283 = true then ((dancestudiolaw56_takes.f k 0 0 0 0 0 false 0 0 0 0 0 0 0 2 (([10, 2, 4, 6, 2, 2, 0] : List Int))).bind fun t287 => (if t287 = true then ((dancestudiolaw56_takes.f k 0 0 0 0 0 false 0 0 0 0 0 0 0 13 (([10, 2, 4, 6, 2] : List Int))).bind fun t291 => (if t291 = true then ((dancestudiolaw56_takes.f k 0 0 0 0 0 false 0 0 0 0 0 0 0 43 (([10, 2, 4, 12, 2, 2] : List Int))).bind fun t295 => (if t295 = true then ((dancestudiolaw56_stamp.f 5 1).bind fun bt296 => ((dancestudiolaw56_stamp.f 3 2).bind fun bt298 => ((edits_Next.f k 2 (([(⟨bt296.1, bt296.2⟩ : S23), (⟨bt298.1, bt298.2⟩ : S23)] : List (S23)))).bind fun bt303 => ((edits_Next.f k 65 ([] : List (S23))).bind fun bt307 => ((dancestudiolaw56_stamp.f 1000000 1).bind fun bt310 => ((edits_Next.f k 1 (([(⟨bt310.1, bt310.2⟩ : S23)] : List (S23)))).bind fun bt315 => ((dancestudiolaw56_stamp.f 6 2).bind fun bt319 => (if (bt303.1 == bt319.1 && (bt303.2.1 == bt319.2)) = true then (if bt303.2.2 = 0 then (if bt307.2.2 = 43 then (if bt315.2.2 = 43 then ((dancestudiolaw56_stamp.f 5 1).bind fun bt321 => ((dancestudiolaw56_stamp.f 5 2).bind fun bt323 => ((edits_Less.f bt321.1 bt321.2 bt323.1 bt323.2).bind fun t325 => (if t325 = true then ((dancestudiolaw56_stamp.f 5 2).bind fun bt326 => ((dancestudiolaw56_stamp.f 6 1).bind fun bt328 => ((edits_Less.f bt326.1 bt326.2 bt328.1 bt328.2).bind fun t330 => (if t330 = true then ((dancestudiolaw56_stamp.f 5 1).bind fun bt331 => ((dancestudiolaw56_stamp.f 5 1).bind fun bt333 => ((edits_Less.f bt331.1 bt331.2 bt333.1 bt333.2).bind fun t335 => (some (!t335))))) else (none))))) else (none))))) else (none)) else (none)) else (none)) else (none))))))))) else (none))) else (none))) else (none))) else (none))) else (none))) = some r := by first | (rw [hy276]; with_reducible exact H) | (have H2_ := (Option.bind_some _ _).symm.trans H; rw [hy276]; with_reducible exact H2_) | (have H2_ := (Option.bind_some _ _).symm.trans H; with_reducible exact H2_) | with_reducible exact H | (rw [hy276]; exact H) | exact H
          have Ny276 := Aside0.mk hy276
          clear hy276
          replace H := Option.bind_eq_some_iff.mp H
          obtain ⟨t279, A130, H⟩ := H
          try dsimp only at H
          have A13 := Aside0.mk A130
          clear A130
          by_cases c14 : t279 = true
          · subst c14
            rw [if_pos rfl] at H
            obtain ⟨y280, hy280⟩ : ∃ y_ : List Int, y_ = (([10, 2, 4, 6, 2, 4] : List Int)) := ⟨_, rfl⟩
            replace H : ((dancestudiolaw56_takes.f k 0 0 0 0 0 false 0 0 0 0 0 0 0 2 y280).bind fun t283 => (if t283 = true then ((dancestudiolaw56_takes.f k 0 0 0 0 0 false 0 0 0 0 0 0 0 2 (([10, 2, 4, 6, 2, 2, 0] : List Int))).bind fun t287 => (if t287 = true then ((dancestudiolaw56_takes.f k 0 0 0 0 0 false 0 0 0 0 0 0 0 13 (([10, 2, 4, 6, 2] : List Int))).bind fun t291 => (if t291 = true then ((dancestudiolaw56_takes.f k 0 0 0 0 0 false 0 0 0 0 0 0 0 43 (([10, 2, 4, 12, 2, 2] : List Int))).bind fun t295 => (if t295 = true then ((dancestudiolaw56_stamp.f 5 1).bind fun bt296 => ((dancestudiolaw56_stamp.f 3 2).bind fun bt298 => ((edits_Next.f k 2 (([(⟨bt296.1, bt296.2⟩ : S23), (⟨bt298.1, bt298.2⟩ : S23)] : List (S23)))).bind fun bt303 => ((edits_Next.f k 65 ([] : List (S23))).bind fun bt307 => ((dancestudiolaw56_stamp.f 1000000 1).bind fun bt310 => ((edits_Next.f k 1 (([(⟨bt310.1, bt310.2⟩ : S23)] : List (S23)))).bind fun bt315 => ((dancestudiolaw56_stamp.f 6 2).bind fun bt319 => (if (bt303.1 == bt319.1 && (bt303.2.1 == bt319.2)) = true then (if bt303.2.2 = 0 then (if bt307.2.2 = 43 then (if bt315.2.2 = 43 then ((dancestudiolaw56_stamp.f 5 1).bind fun bt321 => ((dancestudiolaw56_stamp.f 5 2).bind fun bt323 => ((edits_Less.f bt321.1 bt321.2 bt323.1 bt323.2).bind fun t325 => (if t325 = true then ((dancestudiolaw56_stamp.f 5 2).bind fun bt326 => ((dancestudiolaw56_stamp.f 6 1).bind fun bt328 => ((edits_Less.f bt326.1 bt326.2 bt328.1 bt328.2).bind fun t330 => (if t330 = true then ((dancestudiolaw56_stamp.f 5 1).bind fun bt331 => ((dancestudiolaw56_stamp.f 5 1).bind fun bt333 => ((edits_Less.f bt331.1 bt331.2 bt333.1 bt333.2).bind fun t335 => (some (!t335))))) else (none))))) else (none))))) else (none)) else (none)) else (none)) else (none))))))))) else (none))) else (none))) else (none))) else (none))) = some r := by first | (rw [hy280]; with_reducible exact H) | (have H2_ := (Option.bind_some _ _).symm.trans H; rw [hy280]; with_reducible exact H2_) | (have H2_ := (Option.bind_some _ _).symm.trans H; with_reducible exact H2_) | with_reducible exact H | (rw [hy280]; exact H) | exact H
            have Ny280 := Aside0.mk hy280
            clear hy280
            replace H := Option.bind_eq_some_iff.mp H
            obtain ⟨t283, A150, H⟩ := H
            try dsimp only at H
            have A15 := Aside0.mk A150
            clear A150
            by_cases c16 : t283 = true
            · subst c16
              rw [if_pos rfl] at H
              obtain ⟨y284, hy284⟩ : ∃ y_ : List Int, y_ = (([10, 2, 4, 6, 2, 2, 0] : List Int)) := ⟨_, rfl⟩
              replace H : ((dancestudiolaw56_takes.f k 0 0 0 0 0 false 0 0 0 0 0 0 0 2 y284).bind fun t287 => (if t287 = true then ((dancestudiolaw56_takes.f k 0 0 0 0 0 false 0 0 0 0 0 0 0 13 (([10, 2, 4, 6, 2] : List Int))).bind fun t291 => (if t291 = true then ((dancestudiolaw56_takes.f k 0 0 0 0 0 false 0 0 0 0 0 0 0 43 (([10, 2, 4, 12, 2, 2] : List Int))).bind fun t295 => (if t295 = true then ((dancestudiolaw56_stamp.f 5 1).bind fun bt296 => ((dancestudiolaw56_stamp.f 3 2).bind fun bt298 => ((edits_Next.f k 2 (([(⟨bt296.1, bt296.2⟩ : S23), (⟨bt298.1, bt298.2⟩ : S23)] : List (S23)))).bind fun bt303 => ((edits_Next.f k 65 ([] : List (S23))).bind fun bt307 => ((dancestudiolaw56_stamp.f 1000000 1).bind fun bt310 => ((edits_Next.f k 1 (([(⟨bt310.1, bt310.2⟩ : S23)] : List (S23)))).bind fun bt315 => ((dancestudiolaw56_stamp.f 6 2).bind fun bt319 => (if (bt303.1 == bt319.1 && (bt303.2.1 == bt319.2)) = true then (if bt303.2.2 = 0 then (if bt307.2.2 = 43 then (if bt315.2.2 = 43 then ((dancestudiolaw56_stamp.f 5 1).bind fun bt321 => ((dancestudiolaw56_stamp.f 5 2).bind fun bt323 => ((edits_Less.f bt321.1 bt321.2 bt323.1 bt323.2).bind fun t325 => (if t325 = true then ((dancestudiolaw56_stamp.f 5 2).bind fun bt326 => ((dancestudiolaw56_stamp.f 6 1).bind fun bt328 => ((edits_Less.f bt326.1 bt326.2 bt328.1 bt328.2).bind fun t330 => (if t330 = true then ((dancestudiolaw56_stamp.f 5 1).bind fun bt331 => ((dancestudiolaw56_stamp.f 5 1).bind fun bt333 => ((edits_Less.f bt331.1 bt331.2 bt333.1 bt333.2).bind fun t335 => (some (!t335))))) else (none))))) else (none))))) else (none)) else (none)) else (none)) else (none))))))))) else (none))) else (none))) else (none))) = some r := by first | (rw [hy284]; with_reducible exact H) | (have H2_ := (Option.bind_some _ _).symm.trans H; rw [hy284]; with_reducible exact H2_) | (have H2_ := (Option.bind_some _ _).symm.trans H; with_reducible exact H2_) | with_reducible exact H | (rw [hy284]; exact H) | exact H
              have Ny284 := Aside0.mk hy284
              clear hy284
              replace H := Option.bind_eq_some_iff.mp H
              obtain ⟨t287, A170, H⟩ := H
              try dsimp only at H
              have A17 := Aside0.mk A170
              clear A170
              by_cases c18 : t287 = true
              · subst c18
                rw [if_pos rfl] at H
                obtain ⟨y288, hy288⟩ : ∃ y_ : List Int, y_ = (([10, 2, 4, 6, 2] : List Int)) := ⟨_, rfl⟩
                replace H : ((dancestudiolaw56_takes.f k 0 0 0 0 0 false 0 0 0 0 0 0 0 13 y288).bind fun t291 => (if t291 = true then ((dancestudiolaw56_takes.f k 0 0 0 0 0 false 0 0 0 0 0 0 0 43 (([10, 2, 4, 12, 2, 2] : List Int))).bind fun t295 => (if t295 = true then ((dancestudiolaw56_stamp.f 5 1).bind fun bt296 => ((dancestudiolaw56_stamp.f 3 2).bind fun bt298 => ((edits_Next.f k 2 (([(⟨bt296.1, bt296.2⟩ : S23), (⟨bt298.1, bt298.2⟩ : S23)] : List (S23)))).bind fun bt303 => ((edits_Next.f k 65 ([] : List (S23))).bind fun bt307 => ((dancestudiolaw56_stamp.f 1000000 1).bind fun bt310 => ((edits_Next.f k 1 (([(⟨bt310.1, bt310.2⟩ : S23)] : List (S23)))).bind fun bt315 => ((dancestudiolaw56_stamp.f 6 2).bind fun bt319 => (if (bt303.1 == bt319.1 && (bt303.2.1 == bt319.2)) = true then (if bt303.2.2 = 0 then (if bt307.2.2 = 43 then (if bt315.2.2 = 43 then ((dancestudiolaw56_stamp.f 5 1).bind fun bt321 => ((dancestudiolaw56_stamp.f 5 2).bind fun bt323 => ((edits_Less.f bt321.1 bt321.2 bt323.1 bt323.2).bind fun t325 => (if t325 = true then ((dancestudiolaw56_stamp.f 5 2).bind fun bt326 => ((dancestudiolaw56_stamp.f 6 1).bind fun bt328 => ((edits_Less.f bt326.1 bt326.2 bt328.1 bt328.2).bind fun t330 => (if t330 = true then ((dancestudiolaw56_stamp.f 5 1).bind fun bt331 => ((dancestudiolaw56_stamp.f 5 1).bind fun bt333 => ((edits_Less.f bt331.1 bt331.2 bt333.1 bt333.2).bind fun t335 => (some (!t335))))) else (none))))) else (none))))) else (none)) else (none)) else (none)) else (none))))))))) else (none))) else (none))) = some r := by first | (rw [hy288]; with_reducible exact H) | (have H2_ := (Option.bind_some _ _).symm.trans H; rw [hy288]; with_reducible exact H2_) | (have H2_ := (Option.bind_some _ _).symm.trans H; with_reducible exact H2_) | with_reducible exact H | (rw [hy288]; exact H) | exact H
                have Ny288 := Aside0.mk hy288
                clear hy288
                replace H := Option.bind_eq_some_iff.mp H
                obtain ⟨t291, A190, H⟩ := H
                try dsimp only at H
                have A19 := Aside0.mk A190
                clear A190
                by_cases c20 : t291 = true
                · subst c20
                  rw [if_pos rfl] at H
                  obtain ⟨y292, hy292⟩ : ∃ y_ : List Int, y_ = (([10, 2, 4, 12, 2, 2] : List Int)) := ⟨_, rfl⟩
                  replace H : ((dancestudiolaw56_takes.f k 0 0 0 0 0 false 0 0 0 0 0 0 0 43 y292).bind fun t295 => (if t295 = true then ((dancestudiolaw56_stamp.f 5 1).bind fun bt296 => ((dancestudiolaw56_stamp.f 3 2).bind fun bt298 => ((edits_Next.f k 2 (([(⟨bt296.1, bt296.2⟩ : S23), (⟨bt298.1, bt298.2⟩ : S23)] : List (S23)))).bind fun bt303 => ((edits_Next.f k 65 ([] : List (S23))).bind fun bt307 => ((dancestudiolaw56_stamp.f 1000000 1).bind fun bt310 => ((edits_Next.f k 1 (([(⟨bt310.1, bt310.2⟩ : S23)] : List (S23)))).bind fun bt315 => ((dancestudiolaw56_stamp.f 6 2).bind fun bt319 => (if (bt303.1 == bt319.1 && (bt303.2.1 == bt319.2)) = true then (if bt303.2.2 = 0 then (if bt307.2.2 = 43 then (if bt315.2.2 = 43 then ((dancestudiolaw56_stamp.f 5 1).bind fun bt321 => ((dancestudiolaw56_stamp.f 5 2).bind fun bt323 => ((edits_Less.f bt321.1 bt321.2 bt323.1 bt323.2).bind fun t325 => (if t325 = true then ((dancestudiolaw56_stamp.f 5 2).bind fun bt326 => ((dancestudiolaw56_stamp.f 6 1).bind fun bt328 => ((edits_Less.f bt326.1 bt326.2 bt328.1 bt328.2).bind fun t330 => (if t330 = true then ((dancestudiolaw56_stamp.f 5 1).bind fun bt331 => ((dancestudiolaw56_stamp.f 5 1).bind fun bt333 => ((edits_Less.f bt331.1 bt331.2 bt333.1 bt333.2).bind fun t335 => (some (!t335))))) else (none))))) else (none))))) else (none)) else (none)) else (none)) else (none))))))))) else (none))) = some r := by first | (rw [hy292]; with_reducible exact H) | (have H2_ := (Option.bind_some _ _).symm.trans H; rw [hy292]; with_reducible exact H2_) | (have H2_ := (Option.bind_some _ _).symm.trans H; with_reducible exact H2_) | with_reducible exact H | (rw [hy292]; exact H) | exact H
                  have Ny292 := Aside0.mk hy292
                  clear hy292
                  replace H := Option.bind_eq_some_iff.mp H
                  obtain ⟨t295, A210, H⟩ := H
                  try dsimp only at H
                  have A21 := Aside0.mk A210
                  clear A210
                  by_cases c22 : t295 = true
                  · subst c22
                    rw [if_pos rfl] at H
                    replace H := Option.bind_eq_some_iff.mp H
                    obtain ⟨⟨t296, t297⟩, A230, H⟩ := H
                    try dsimp only at H
                    have A23 := Aside0.mk A230
                    clear A230
                    replace H := Option.bind_eq_some_iff.mp H
                    obtain ⟨⟨t298, t299⟩, A240, H⟩ := H
                    try dsimp only at H
                    have A24 := Aside0.mk A240
                    clear A240
                    obtain ⟨y300, hy300⟩ : ∃ y_ : List (S23), y_ = (([(⟨t296, t297⟩ : S23), (⟨t298, t299⟩ : S23)] : List (S23))) := ⟨_, rfl⟩
                    replace H : ((edits_Next.f k 2 y300).bind fun bt303 => ((edits_Next.f k 65 ([] : List (S23))).bind fun bt307 => ((dancestudiolaw56_stamp.f 1000000 1).bind fun bt310 => ((edits_Next.f k 1 (([(⟨bt310.1, bt310.2⟩ : S23)] : List (S23)))).bind fun bt315 => ((dancestudiolaw56_stamp.f 6 2).bind fun bt319 => (if (bt303.1 == bt319.1 && (bt303.2.1 == bt319.2)) = true then (if bt303.2.2 = 0 then (if bt307.2.2 = 43 then (if bt315.2.2 = 43 then ((dancestudiolaw56_stamp.f 5 1).bind fun bt321 => ((dancestudiolaw56_stamp.f 5 2).bind fun bt323 => ((edits_Less.f bt321.1 bt321.2 bt323.1 bt323.2).bind fun t325 => (if t325 = true then ((dancestudiolaw56_stamp.f 5 2).bind fun bt326 => ((dancestudiolaw56_stamp.f 6 1).bind fun bt328 => ((edits_Less.f bt326.1 bt326.2 bt328.1 bt328.2).bind fun t330 => (if t330 = true then ((dancestudiolaw56_stamp.f 5 1).bind fun bt331 => ((dancestudiolaw56_stamp.f 5 1).bind fun bt333 => ((edits_Less.f bt331.1 bt331.2 bt333.1 bt333.2).bind fun t335 => (some (!t335))))) else (none))))) else (none))))) else (none)) else (none)) else (none)) else (none))))))) = some r := by first | (rw [hy300]; with_reducible exact H) | (have H2_ := (Option.bind_some _ _).symm.trans H; rw [hy300]; with_reducible exact H2_) | (have H2_ := (Option.bind_some _ _).symm.trans H; with_reducible exact H2_) | with_reducible exact H | (rw [hy300]; exact H) | exact H
                    have Ny300 := Aside0.mk hy300
                    clear hy300
                    replace H := Option.bind_eq_some_iff.mp H
                    obtain ⟨⟨t303, t304, t305⟩, A250, H⟩ := H
                    try dsimp only at H
                    have A25 := Aside0.mk A250
                    clear A250
                    replace H := Option.bind_eq_some_iff.mp H
                    obtain ⟨⟨t307, t308, t309⟩, A260, H⟩ := H
                    try dsimp only at H
                    have A26 := Aside0.mk A260
                    clear A260
                    replace H := Option.bind_eq_some_iff.mp H
                    obtain ⟨⟨t310, t311⟩, A270, H⟩ := H
                    try dsimp only at H
                    have A27 := Aside0.mk A270
                    clear A270
                    obtain ⟨y312, hy312⟩ : ∃ y_ : List (S23), y_ = (([(⟨t310, t311⟩ : S23)] : List (S23))) := ⟨_, rfl⟩
                    replace H : ((edits_Next.f k 1 y312).bind fun bt315 => ((dancestudiolaw56_stamp.f 6 2).bind fun bt319 => (if (t303 == bt319.1 && (t304 == bt319.2)) = true then (if t305 = 0 then (if t309 = 43 then (if bt315.2.2 = 43 then ((dancestudiolaw56_stamp.f 5 1).bind fun bt321 => ((dancestudiolaw56_stamp.f 5 2).bind fun bt323 => ((edits_Less.f bt321.1 bt321.2 bt323.1 bt323.2).bind fun t325 => (if t325 = true then ((dancestudiolaw56_stamp.f 5 2).bind fun bt326 => ((dancestudiolaw56_stamp.f 6 1).bind fun bt328 => ((edits_Less.f bt326.1 bt326.2 bt328.1 bt328.2).bind fun t330 => (if t330 = true then ((dancestudiolaw56_stamp.f 5 1).bind fun bt331 => ((dancestudiolaw56_stamp.f 5 1).bind fun bt333 => ((edits_Less.f bt331.1 bt331.2 bt333.1 bt333.2).bind fun t335 => (some (!t335))))) else (none))))) else (none))))) else (none)) else (none)) else (none)) else (none)))) = some r := by first | (rw [hy312]; with_reducible exact H) | (have H2_ := (Option.bind_some _ _).symm.trans H; rw [hy312]; with_reducible exact H2_) | (have H2_ := (Option.bind_some _ _).symm.trans H; with_reducible exact H2_) | with_reducible exact H | (rw [hy312]; exact H) | exact H
                    have Ny312 := Aside0.mk hy312
                    clear hy312
                    replace H := Option.bind_eq_some_iff.mp H
                    obtain ⟨⟨t315, t316, t317⟩, A280, H⟩ := H
                    try dsimp only at H
                    have A28 := Aside0.mk A280
                    clear A280
                    replace H := Option.bind_eq_some_iff.mp H
                    obtain ⟨⟨t319, t320⟩, A290, H⟩ := H
                    try dsimp only at H
                    have A29 := Aside0.mk A290
                    clear A290
                    by_cases c30 : (t303 == t319 && (t304 == t320)) = true
                    · rw [if_pos c30] at H
                      have c30b0 : (t303 == t319 && (t304 == t320)) = true := c30
                      (try (have c30b1 : decide (t303 = t319 && (t304 == t320)) = true := by simpa using c30))
                      (try (have c30b2 : (t303 == t319 && (t304 == t320)) = true := by simpa using c30))
                      clear c30
                      by_cases c31 : t305 = 0
                      · rw [if_pos c31] at H
                        have c31b0 : (t305 == 0) = true := beq_iff_eq.mpr c31
                        have c31b1 : (t305 != 0) = false := bne_eq_false_iff_eq.mpr c31
                        clear c31
                        by_cases c32 : t309 = 43
                        · rw [if_pos c32] at H
                          have c32b0 : (t309 == 43) = true := beq_iff_eq.mpr c32
                          have c32b1 : (t309 != 43) = false := bne_eq_false_iff_eq.mpr c32
                          clear c32
                          by_cases c33 : t317 = 43
                          · rw [if_pos c33] at H
                            have c33b0 : (t317 == 43) = true := beq_iff_eq.mpr c33
                            have c33b1 : (t317 != 43) = false := bne_eq_false_iff_eq.mpr c33
                            clear c33
                            replace H := Option.bind_eq_some_iff.mp H
                            obtain ⟨⟨t321, t322⟩, A340, H⟩ := H
                            try dsimp only at H
                            have A34 := Aside0.mk A340
                            clear A340
                            replace H := Option.bind_eq_some_iff.mp H
                            obtain ⟨⟨t323, t324⟩, A350, H⟩ := H
                            try dsimp only at H
                            have A35 := Aside0.mk A350
                            clear A350
                            replace H := Option.bind_eq_some_iff.mp H
                            obtain ⟨t325, A360, H⟩ := H
                            try dsimp only at H
                            have A36 := Aside0.mk A360
                            clear A360
                            by_cases c37 : t325 = true
                            · subst c37
                              rw [if_pos rfl] at H
                              replace H := Option.bind_eq_some_iff.mp H
                              obtain ⟨⟨t326, t327⟩, A380, H⟩ := H
                              try dsimp only at H
                              have A38 := Aside0.mk A380
                              clear A380
                              replace H := Option.bind_eq_some_iff.mp H
                              obtain ⟨⟨t328, t329⟩, A390, H⟩ := H
                              try dsimp only at H
                              have A39 := Aside0.mk A390
                              clear A390
                              replace H := Option.bind_eq_some_iff.mp H
                              obtain ⟨t330, A400, H⟩ := H
                              try dsimp only at H
                              have A40 := Aside0.mk A400
                              clear A400
                              by_cases c41 : t330 = true
                              · subst c41
                                rw [if_pos rfl] at H
                                replace H := Option.bind_eq_some_iff.mp H
                                obtain ⟨⟨t331, t332⟩, A420, H⟩ := H
                                replace H : ((dancestudiolaw56_stamp.f 5 1).bind fun bt333 => ((edits_Less.f t331 t332 bt333.1 bt333.2).bind fun t335 => (some (!t335)))) = some r := H
                                have A42 := Aside0.mk A420
                                clear A420
                                replace H := Option.bind_eq_some_iff.mp H
                                obtain ⟨⟨t333, t334⟩, A430, H⟩ := H
                                replace H : ((edits_Less.f t331 t332 t333 t334).bind fun t335 => (some (!t335))) = some r := H
                                have A43 := Aside0.mk A430
                                clear A430
                                replace H := Option.bind_eq_some_iff.mp H
                                obtain ⟨t335, A440, H⟩ := H
                                replace H : (some (!t335)) = some r := H
                                have A44 := Aside0.mk A440
                                clear A440
                                obtain rfl := Option.some.inj H
                                go_enter Try.func16, Try.ntmps16
                                try go_wp2_with (first | ((with_reducible refine gate_callee (f := 30) rfl ?_); refine goesL_ (some 10) rfl rfl Try.func30 (by kernel_rfl) rfl #[.int .i64 5, .int .i64 1] rfl (by (try simp only [List.map_toArray, List.map_cons, List.map_nil]); first | done | rfl | (simp only [List.length_drop, List.length_take]; rfl)) ?_; (with_reducible refine (dancestudiolaw56_stamp.calls 5 1 t250 t251 _ A1.out).mono ?_); rintro e w45 ⟨rfl, hb⟩; refine ⟨_, rfl, ?_⟩; have n0_ := Aside0.mk (below_step (hU HB.out) hb); clear HB; have HB := n0_; clear n0_; (try clear hb); (try clear hb2); (try clear hk); (try clear hi)) | ((with_reducible refine gate_callee (f := 30) rfl ?_); refine goesL_ (some 11) rfl rfl Try.func30 (by kernel_rfl) rfl #[.int .i64 3, .int .i64 1] rfl (by (try simp only [List.map_toArray, List.map_cons, List.map_nil]); first | done | rfl | (simp only [List.length_drop, List.length_take]; rfl)) ?_; (with_reducible refine (dancestudiolaw56_stamp.calls 3 1 t252 t253 _ A2.out).mono ?_); rintro e w46 ⟨rfl, hb⟩; refine ⟨_, rfl, ?_⟩; have n0_ := Aside0.mk (below_step (hU HB.out) hb); clear HB; have HB := n0_; clear n0_; (try clear hb); (try clear hb2); (try clear hk); (try clear hi)) | ((with_reducible refine gate_dst (N := 1) rfl ?_); (try (refine gate_guard (by rfl) ?_; dsimp only)); refine box_event ?hg (N := 1) ?hd (cs := #[.int .i64 0, .int .i64 0, .int .i64 0, .int .i64 0, .int .i64 0, .bool false, .int .i64 0, .int .i64 0, .int .i64 0, .int .i64 0, .int .i64 0, .int .i64 0, .int .i64 0]) (t := 27) ?hr ?_; (case hd => rfl); (case hg => rfl); (case hr => first | (go_simp; done) | (go_simp; rfl)); intro gb254 hg w47 hbox hb; have n0_ := Aside0.mk (below_step (hU HB.out) hb); have n1_ := Aside0.mk (hbox); have n2_ := Aside0.mk ((by rw [hg]; exact (below_size (hU HB.out)) : w.heap.size ≤ gb254)); have n3_ := Aside0.mk ((by rw [hg]; exact (below_size (hU HB.out)) : w.heap.size ≤ gb254)); clear HB; have HB := n0_; have BK254 := n1_; have GW254 := n2_; have GE254 := n3_; clear n0_ n1_ n2_ n3_; clear hb hbox hg; have hcz48_0 := blk_cell BK254.out; have hfz48_0 := blk_frozen BK254.out) | ((with_reducible refine gate_callee (f := 30) rfl ?_); refine goesL_ (some 13) rfl rfl Try.func30 (by kernel_rfl) rfl #[.int .i64 1, .int .i64 1] rfl (by (try simp only [List.map_toArray, List.map_cons, List.map_nil]); first | done | rfl | (simp only [List.length_drop, List.length_take]; rfl)) ?_; (with_reducible refine (dancestudiolaw56_stamp.calls 1 1 t255 t256 _ A3.out).mono ?_); rintro e w49 ⟨rfl, hb⟩; refine ⟨_, rfl, ?_⟩; have n0_ := Aside0.mk (blk_below (g := gb254) (o := .cells #[.int .i64 t250, .int .i64 t251, .int .i64 2, .int .i64 t252, .int .i64 t253, .bool true, .int .i64 0, .int .i64 0, .int .i64 0, .int .i64 0, .int .i64 0, .int .i64 0, .int .i64 0] 27 (0, 0)) (by (with_reducible repeat (first | refine blk_drewN ?_ _ | refine blk_drew ?_ | refine blk_alloc ?_ _)); apply blk_put; (iterate 12 ((with_reducible repeat (first | refine blk_drewN ?_ _ | refine blk_drew ?_ | refine blk_alloc ?_ _)); apply blk_set)); (with_reducible repeat (first | refine blk_drewN ?_ _ | refine blk_drew ?_ | refine blk_alloc ?_ _)); exact BK254.out; simp only [List.setIfInBounds_toArray, List.set_cons_zero, List.set_cons_succ]) hb); have n1_ := Aside0.mk (below_step (hU HB.out) hb); clear BK254; clear HB; have BK254 := n0_; have HB := n1_; clear n0_ n1_; (try clear hb); (try clear hb2); (try clear hk); (try clear hi)) | ((with_reducible refine gate_callee (f := 30) rfl ?_); refine goesL_ (some 14) rfl rfl Try.func30 (by kernel_rfl) rfl #[.int .i64 1, .int .i64 1] rfl (by (try simp only [List.map_toArray, List.map_cons, List.map_nil]); first | done | rfl | (simp only [List.length_drop, List.length_take]; rfl)) ?_; (with_reducible refine (dancestudiolaw56_stamp.calls 1 1 t257 t258 _ A4.out).mono ?_); rintro e w50 ⟨rfl, hb⟩; refine ⟨_, rfl, ?_⟩; have n0_ := Aside0.mk (blk_below (bU BK254.out) hb); have n1_ := Aside0.mk (below_step (hU HB.out) hb); clear BK254; clear HB; have BK254 := n0_; have HB := n1_; clear n0_ n1_; (try clear hb); (try clear hb2); (try clear hk); (try clear hi)) | ((with_reducible refine gate_dst (N := 2) rfl ?_); (try (refine gate_guard (by rfl) ?_; dsimp only)); refine box_event ?hg (N := 2) ?hd (cs := #[.int .i64 0, .int .i64 0, .int .i64 0, .int .i64 0, .int .i64 0, .bool false, .int .i64 0, .int .i64 0, .int .i64 0, .int .i64 0, .int .i64 0, .int .i64 0, .int .i64 0]) (t := 27) ?hr ?_; (case hd => rfl); (case hg => rfl); (case hr => first | (go_simp; done) | (go_simp; rfl)); intro gb259 hg w51 hbox hb; have n0_ := Aside0.mk (blk_below (bU BK254.out) hb); have n1_ := Aside0.mk (below_step (hU HB.out) hb); have n2_ := Aside0.mk (hbox); have n3_ := Aside0.mk ((by rw [hg]; exact (below_size (hU HB.out)) : w.heap.size ≤ gb259)); have n4_ := Aside0.mk ((by rw [hg]; exact (below_size (hU HB.out)) : w.heap.size ≤ gb259)); have n5_ := Aside0.mk ((by rw [hg]; exact Nat.ne_of_lt (blk_lt (bU BK254.out)) : gb254 ≠ gb259)); have n6_ := Aside0.mk ((by rw [hg]; exact Nat.ne_of_gt (blk_lt (bU BK254.out)) : gb259 ≠ gb254)); clear BK254; clear HB; have BK254 := n0_; have HB := n1_; have BK259 := n2_; have GW259 := n3_; have GE259 := n4_; have NB254_259 := n5_; have NB259_254 := n6_; clear n0_ n1_ n2_ n3_ n4_ n5_ n6_; clear hb hbox hg; have hnb52 := NB259_254.out; have hnc52 := NB254_259.out; have hcz53_0 := blk_cell BK259.out; have hfz53_0 := blk_frozen BK259.out; have hcz54_0 := blk_cell BK254.out; have hfz54_0 := blk_frozen BK254.out) | ((with_reducible refine gate_callee (f := 11) rfl ?_); refine goesL_ (some 19) rfl rfl Try.func11 (by kernel_rfl) rfl #[.agg #[.int .i64 t250, .int .i64 t251, .int .i64 2, .int .i64 t252, .int .i64 t253, .bool true, .int .i64 0, .int .i64 0, .int .i64 0, .int .i64 0, .int .i64 0, .int .i64 0, .int .i64 0]] rfl (by (try simp only [List.map_toArray, List.map_cons, List.map_nil]); first | done | rfl | (simp only [List.length_drop, List.length_take]; rfl)) ?_; (with_reducible refine (edits_Put.calls k t250 t251 2 t252 t253 true 0 0 0 0 0 0 0 t260 t263 _ A5.out).mono ?_); rintro e w55 ⟨v261, rfl, ho0, hb⟩; refine ⟨_, rfl, ?_⟩; have n0_ := Aside0.mk (Kd.V_lower (Kd.V_mono (ok' := fun k_ => k_ ≠ gb254 ∧ k_ ≠ gb259) ho0 (fun k_ hk_ => ⟨(Kd.freshB (g := gb254) (o := .cells #[.int .i64 t250, .int .i64 t251, .int .i64 2, .int .i64 t252, .int .i64 t253, .bool true, .int .i64 0, .int .i64 0, .int .i64 0, .int .i64 0, .int .i64 0, .int .i64 0, .int .i64 0] 27 (0, 0)) (by (iterate 13 ((with_reducible repeat (first | refine blk_drewN ?_ _ | refine blk_drew ?_ | refine blk_alloc ?_ _)); refine blk_far ?_ NB254_259.out _)); (with_reducible repeat (first | refine blk_drewN ?_ _ | refine blk_drew ?_ | refine blk_alloc ?_ _)); exact BK254.out) k_ hk_), (Kd.freshB (g := gb259) (o := .cells #[.int .i64 t255, .int .i64 t256, .int .i64 0, .int .i64 t257, .int .i64 t258, .bool false, .int .i64 2, .int .i64 0, .int .i64 0, .int .i64 8, .int .i64 0, .int .i64 0, .int .i64 0] 27 (0, 0)) (by (with_reducible repeat (first | refine blk_drewN ?_ _ | refine blk_drew ?_ | refine blk_alloc ?_ _)); apply blk_put; (iterate 12 ((with_reducible repeat (first | refine blk_drewN ?_ _ | refine blk_drew ?_ | refine blk_alloc ?_ _)); apply blk_set)); (with_reducible repeat (first | refine blk_drewN ?_ _ | refine blk_drew ?_ | refine blk_alloc ?_ _)); exact BK259.out; simp only [List.setIfInBounds_toArray, List.set_cons_zero, List.set_cons_succ]) k_ hk_)⟩)) (below_size (hU HB.out))); have n1_ := Aside0.mk (blk_below (g := gb254) (o := .cells #[.int .i64 t250, .int .i64 t251, .int .i64 2, .int .i64 t252, .int .i64 t253, .bool true, .int .i64 0, .int .i64 0, .int .i64 0, .int .i64 0, .int .i64 0, .int .i64 0, .int .i64 0] 27 (0, 0)) (by (iterate 13 ((with_reducible repeat (first | refine blk_drewN ?_ _ | refine blk_drew ?_ | refine blk_alloc ?_ _)); refine blk_far ?_ NB254_259.out _)); (with_reducible repeat (first | refine blk_drewN ?_ _ | refine blk_drew ?_ | refine blk_alloc ?_ _)); exact BK254.out) hb); have n2_ := Aside0.mk (blk_below (g := gb259) (o := .cells #[.int .i64 t255, .int .i64 t256, .int .i64 0, .int .i64 t257, .int .i64 t258, .bool false, .int .i64 2, .int .i64 0, .int .i64 0, .int .i64 8, .int .i64 0, .int .i64 0, .int .i64 0] 27 (0, 0)) (by (with_reducible repeat (first | refine blk_drewN ?_ _ | refine blk_drew ?_ | refine blk_alloc ?_ _)); apply blk_put; (iterate 12 ((with_reducible repeat (first | refine blk_drewN ?_ _ | refine blk_drew ?_ | refine blk_alloc ?_ _)); apply blk_set)); (with_reducible repeat (first | refine blk_drewN ?_ _ | refine blk_drew ?_ | refine blk_alloc ?_ _)); exact BK259.out; simp only [List.setIfInBounds_toArray, List.set_cons_zero, List.set_cons_succ]) hb); have n3_ := Aside0.mk (below_step (hU HB.out) hb); clear BK254; clear BK259; clear HB; have HO262 := n0_; have BK254 := n1_; have BK259 := n2_; have HB := n3_; clear n0_ n1_ n2_ n3_; (try clear hb); (try clear hb2); (try clear hk); (try clear hi); (try clear ho0); have hcz56_0 := blk_cell BK259.out; have hfz56_0 := blk_frozen BK259.out) | ((with_reducible refine gate_callee (f := 11) rfl ?_); refine goesL_ (some 24) rfl rfl Try.func11 (by kernel_rfl) rfl #[.agg #[.int .i64 t255, .int .i64 t256, .int .i64 0, .int .i64 t257, .int .i64 t258, .bool false, .int .i64 2, .int .i64 0, .int .i64 0, .int .i64 8, .int .i64 0, .int .i64 0, .int .i64 0]] rfl (by (try simp only [List.map_toArray, List.map_cons, List.map_nil]); first | done | rfl | (simp only [List.length_drop, List.length_take]; rfl)) ?_; (with_reducible refine (edits_Put.calls k t255 t256 0 t257 t258 false 2 0 0 8 0 0 0 t264 t267 _ A6.out).mono ?_); rintro e w57 ⟨v265, rfl, ho0, hb⟩; refine ⟨_, rfl, ?_⟩; have n0_ := Aside0.mk (Kd.V_below (Kd.vU HO262.out) hb); have n1_ := Aside0.mk (Kd.V_lower (Kd.V_mono (ok' := fun k_ => k_ ≠ gb254 ∧ k_ ≠ gb259) ho0 (fun k_ hk_ => ⟨(Kd.freshB (bU BK254.out) k_ hk_), (Kd.freshB (bU BK259.out) k_ hk_)⟩)) (below_size (hU HB.out))); have n2_ := Aside0.mk (blk_below (bU BK254.out) hb); have n3_ := Aside0.mk (blk_below (bU BK259.out) hb); have n4_ := Aside0.mk (below_step (hU HB.out) hb); clear HO262; clear BK254; clear BK259; clear HB; have HO262 := n0_; have HO266 := n1_; have BK254 := n2_; have BK259 := n3_; have HB := n4_; clear n0_ n1_ n2_ n3_ n4_; (try clear hb); (try clear hb2); (try clear hk); (try clear hi); (try clear ho0)) | ((with_reducible refine gate_dst (N := 35) rfl ?_); (try (refine gate_guard (by rfl) ?_; dsimp only)); refine Kd.R_lit (Kd.int .u8) _ 5 ?hg (N := 35) ?hd (xs := ([10, 2, 4, 6, 2, 2] : List Int)) (inner := [.int .u8 10, .int .u8 2, .int .u8 4, .int .u8 6, .int .u8 2, .int .u8 2]) (ok := fun _ => True) (okp := fun _ => True) ?hr ?hp (fun _ hk => hk) trivial (Below.refl _ _) (Nat.le_refl _) (by simp) ?_; (case hd => rfl); (case hg => rfl); (case hr => first | (go_simp; done) | (go_simp; rfl)); (case hp => exact (Reps.one (show Kd.M (Kd.int .u8) _ _ _ 10 [.int .u8 10] from rfl) (Reps.one (show Kd.M (Kd.int .u8) _ _ _ 2 [.int .u8 2] from rfl) (Reps.one (show Kd.M (Kd.int .u8) _ _ _ 4 [.int .u8 4] from rfl) (Reps.one (show Kd.M (Kd.int .u8) _ _ _ 6 [.int .u8 6] from rfl) (Reps.one (show Kd.M (Kd.int .u8) _ _ _ 2 [.int .u8 2] from rfl) (Reps.one (show Kd.M (Kd.int .u8) _ _ _ 2 [.int .u8 2] from rfl) (Reps.none _ _)))))))); intro v269 w58 ho59 hb hg_ hnew_; clear hg_ hnew_; (first | rw [← Ny268.out] at ho59 | (simp only [Int.reduceToNat] at ho59; rw [← Ny268.out] at ho59)); have n0_ := Aside0.mk (Kd.V_elder' (Kd.vU HO262.out) (Kd.R_base ho59) hb); have n1_ := Aside0.mk (Kd.V_elder' (Kd.vU HO266.out) (Kd.R_base ho59) hb); have n2_ := Aside0.mk (Kd.R_lower ho59 (below_size (hU HB.out))); have n3_ := Aside0.mk (blk_below (bU BK254.out) hb); have n4_ := Aside0.mk (blk_below (bU BK259.out) hb); have n5_ := Aside0.mk (below_step (hU HB.out) hb); clear HO262; clear HO266; clear BK254; clear BK259; clear HB; have HO262 := n0_; have HO266 := n1_; have HO270 := n2_; have BK254 := n3_; have BK259 := n4_; have HB := n5_; clear n0_ n1_ n2_ n3_ n4_ n5_; clear hb ho59; obtain ⟨Ao60, co60, eo60⟩ := Kd.V_slice HO262.out; subst eo60; obtain ⟨Ao61, co61, eo61⟩ := Kd.R_slice HO270.out; subst eo61) | (go_at_call 15; (with_reducible refine (dancestudioref07_Bytes.calls _ _ t260 _ _ y268 true _ ?side1 ?side2 ?side3 ?side4 A9.out).mono ?_); (case side1 => repeat (first | exact (Kd.V_reads' HO262.out).2.2 | (with_reducible refine Kd.C_alloc ?_ _) | (with_reducible refine Kd.C_drewN ?_ _) | (with_reducible refine Kd.C_drew ?_))); (case side2 => exact (Kd.V_reads' HO262.out).2.1); (case side3 => repeat (first | exact (Kd.R_reads' HO270.out).2.2 | (with_reducible refine Kd.C_alloc ?_ _) | (with_reducible refine Kd.C_drewN ?_ _) | (with_reducible refine Kd.C_drew ?_))); (case side4 => exact (Kd.R_reads' HO270.out).2.1); rintro e w' ⟨rfl, ⟨nd, rfl⟩⟩; (try (rw [drewN_self w58]; generalize hq_ : World.drewN w58 _ = w58; have n0_ : Aside0 (Kd.V (Kd.int .u8) 5 w58 w.heap.size (fun k_ => some k_ ≠ (.slice Ao61 y268.length co61 : Value).ownBlock ∧ k_ ≠ gb254 ∧ k_ ≠ gb259) (.slice Ao60 t260.length co60) t260) := ⟨by rw [← hq_]; exact (by (with_reducible repeat (first | apply Kd.V_alloc | apply Kd.V_drewN | apply Kd.V_drew)); exact Kd.V_mono HO262.out (fun _ hk => by first | exact ⟨hk.2, ⟨hk.1.1, hk.1.2⟩⟩ | (revert hk; simp only [and_imp]; intros; (repeat' apply And.intro) <;> assumption)))⟩; have n1_ : Aside0 (Kd.V (Kd.int .u8) 5 w58 w.heap.size (fun k_ => some k_ ≠ (.slice Ao61 y268.length co61 : Value).ownBlock ∧ k_ ≠ gb254 ∧ k_ ≠ gb259) v265 t264) := ⟨by rw [← hq_]; exact (by (with_reducible repeat (first | apply Kd.V_alloc | apply Kd.V_drewN | apply Kd.V_drew)); exact Kd.V_mono HO266.out (fun _ hk => by first | exact ⟨hk.2, ⟨hk.1.1, hk.1.2⟩⟩ | (revert hk; simp only [and_imp]; intros; (repeat' apply And.intro) <;> assumption)))⟩; have n2_ : Aside0 (Kd.R (Kd.int .u8) 5 w58 w.heap.size (fun _ => True) (.slice Ao61 y268.length co61) y268) := ⟨by rw [← hq_]; exact (Kd.rU HO270.out)⟩; have n3_ : Aside0 (w58.heap[gb254]? = some (.cells #[.int .i64 t250, .int .i64 t251, .int .i64 2, .int .i64 t252, .int .i64 t253, .bool true, .int .i64 0, .int .i64 0, .int .i64 0, .int .i64 0, .int .i64 0, .int .i64 0, .int .i64 0] 27 (0, 0))) := ⟨by rw [← hq_]; exact (bU BK254.out)⟩; have n4_ : Aside0 (w58.heap[gb259]? = some (.cells #[.int .i64 t255, .int .i64 t256, .int .i64 0, .int .i64 t257, .int .i64 t258, .bool false, .int .i64 2, .int .i64 0, .int .i64 0, .int .i64 8, .int .i64 0, .int .i64 0, .int .i64 0] 27 (0, 0))) := ⟨by rw [← hq_]; exact (bU BK259.out)⟩; have n5_ : Aside0 (Below w.heap.size w w58) := ⟨by rw [← hq_]; exact (hU HB.out)⟩; clear HO262 HO266 HO270 BK254 BK259 HB hq_; have HO262 := n0_; have HO266 := n1_; have HO270 := n2_; have BK254 := n3_; have BK259 := n4_; have HB := n5_; clear n0_ n1_ n2_ n3_ n4_ n5_)); (try have hcy254 := blk_cell BK254.out); (try have hfy254 := blk_frozen BK254.out); (try have hcy259 := blk_cell BK259.out); (try have hfy259 := blk_frozen BK259.out)) | ((with_reducible refine gate_dst (N := 41) rfl ?_); (try (refine gate_guard (by rfl) ?_; dsimp only)); refine Kd.R_lit (Kd.int .u8) _ 5 ?hg (N := 41) ?hd (xs := ([2, 2, 0, 2, 2, 0, 4, 0, 0, 16, 0, 0, 0] : List Int)) (inner := [.int .u8 2, .int .u8 2, .int .u8 0, .int .u8 2, .int .u8 2, .int .u8 0, .int .u8 4, .int .u8 0, .int .u8 0, .int .u8 16, .int .u8 0, .int .u8 0, .int .u8 0]) (ok := fun _ => True) (okp := fun _ => True) ?hr ?hp (fun _ hk => hk) trivial (Below.refl _ _) (Nat.le_refl _) (by simp) ?_; (case hd => rfl); (case hg => rfl); (case hr => first | (go_simp; done) | (go_simp; rfl)); (case hp => exact (Reps.one (show Kd.M (Kd.int .u8) _ _ _ 2 [.int .u8 2] from rfl) (Reps.one (show Kd.M (Kd.int .u8) _ _ _ 2 [.int .u8 2] from rfl) (Reps.one (show Kd.M (Kd.int .u8) _ _ _ 0 [.int .u8 0] from rfl) (Reps.one (show Kd.M (Kd.int .u8) _ _ _ 2 [.int .u8 2] from rfl) (Reps.one (show Kd.M (Kd.int .u8) _ _ _ 2 [.int .u8 2] from rfl) (Reps.one (show Kd.M (Kd.int .u8) _ _ _ 0 [.int .u8 0] from rfl) (Reps.one (show Kd.M (Kd.int .u8) _ _ _ 4 [.int .u8 4] from rfl) (Reps.one (show Kd.M (Kd.int .u8) _ _ _ 0 [.int .u8 0] from rfl) (Reps.one (show Kd.M (Kd.int .u8) _ _ _ 0 [.int .u8 0] from rfl) (Reps.one (show Kd.M (Kd.int .u8) _ _ _ 16 [.int .u8 16] from rfl) (Reps.one (show Kd.M (Kd.int .u8) _ _ _ 0 [.int .u8 0] from rfl) (Reps.one (show Kd.M (Kd.int .u8) _ _ _ 0 [.int .u8 0] from rfl) (Reps.one (show Kd.M (Kd.int .u8) _ _ _ 0 [.int .u8 0] from rfl) (Reps.none _ _))))))))))))))); intro v273 w62 ho63 hb hg_ hnew_; clear hg_ hnew_; (first | rw [← Ny272.out] at ho63 | (simp only [Int.reduceToNat] at ho63; rw [← Ny272.out] at ho63)); have n0_ := Aside0.mk (Kd.V_elder' (Kd.vU HO262.out) (Kd.R_base ho63) hb); have n1_ := Aside0.mk (Kd.V_elder' (Kd.vU HO266.out) (Kd.R_base ho63) hb); have n2_ := Aside0.mk (Kd.R_elder' (Kd.rU HO270.out) (Kd.R_base ho63) hb); have n3_ := Aside0.mk (Kd.R_lower (Kd.R_new' ho63 (Kd.R_lt (Kd.rU HO270.out))) (below_size (hU HB.out))); have n4_ := Aside0.mk (blk_below (bU BK254.out) hb); have n5_ := Aside0.mk (blk_below (bU BK259.out) hb); have n6_ := Aside0.mk (below_step (hU HB.out) hb); clear HO262; clear HO266; clear HO270; clear BK254; clear BK259; clear HB; have HO262 := n0_; have HO266 := n1_; have HO270 := n2_; have HO274 := n3_; have BK254 := n4_; have BK259 := n5_; have HB := n6_; clear n0_ n1_ n2_ n3_ n4_ n5_ n6_; clear hb ho63; obtain ⟨Ao64, co64, eo64⟩ := Kd.V_slice HO266.out; subst eo64; obtain ⟨Ao65, co65, eo65⟩ := Kd.R_slice HO274.out; subst eo65) | (go_at_call 15; (with_reducible refine (dancestudioref07_Bytes.calls _ _ t264 _ _ y272 true _ ?side1 ?side2 ?side3 ?side4 A11.out).mono ?_); (case side1 => repeat (first | exact (Kd.V_reads' HO266.out).2.2 | (with_reducible refine Kd.C_alloc ?_ _) | (with_reducible refine Kd.C_drewN ?_ _) | (with_reducible refine Kd.C_drew ?_))); (case side2 => exact (Kd.V_reads' HO266.out).2.1); (case side3 => repeat (first | exact (Kd.R_reads' HO274.out).2.2 | (with_reducible refine Kd.C_alloc ?_ _) | (with_reducible refine Kd.C_drewN ?_ _) | (with_reducible refine Kd.C_drew ?_))); (case side4 => exact (Kd.R_reads' HO274.out).2.1); rintro e w' ⟨rfl, ⟨nd, rfl⟩⟩; (try (rw [drewN_self w62]; generalize hq_ : World.drewN w62 _ = w62; have n0_ : Aside0 (Kd.V (Kd.int .u8) 5 w62 w.heap.size (fun k_ => some k_ ≠ (.slice Ao61 y268.length co61 : Value).ownBlock ∧ some k_ ≠ (.slice Ao65 y272.length co65 : Value).ownBlock ∧ k_ ≠ gb254 ∧ k_ ≠ gb259) (.slice Ao60 t260.length co60) t260) := ⟨by rw [← hq_]; exact (by (with_reducible repeat (first | apply Kd.V_alloc | apply Kd.V_drewN | apply Kd.V_drew)); exact Kd.V_mono HO262.out (fun _ hk => by first | exact ⟨hk.1.2, ⟨hk.2, ⟨hk.1.1.1, hk.1.1.2⟩⟩⟩ | (revert hk; simp only [and_imp]; intros; (repeat' apply And.intro) <;> assumption)))⟩; have n1_ : Aside0 (Kd.V (Kd.int .u8) 5 w62 w.heap.size (fun k_ => some k_ ≠ (.slice Ao61 y268.length co61 : Value).ownBlock ∧ some k_ ≠ (.slice Ao65 y272.length co65 : Value).ownBlock ∧ k_ ≠ gb254 ∧ k_ ≠ gb259) (.slice Ao64 t264.length co64) t264) := ⟨by rw [← hq_]; exact (by (with_reducible repeat (first | apply Kd.V_alloc | apply Kd.V_drewN | apply Kd.V_drew)); exact Kd.V_mono HO266.out (fun _ hk => by first | exact ⟨hk.1.2, ⟨hk.2, ⟨hk.1.1.1, hk.1.1.2⟩⟩⟩ | (revert hk; simp only [and_imp]; intros; (repeat' apply And.intro) <;> assumption)))⟩; have n2_ : Aside0 (Kd.R (Kd.int .u8) 5 w62 w.heap.size (fun k_ => some k_ ≠ (.slice Ao65 y272.length co65 : Value).ownBlock) (.slice Ao61 y268.length co61) y268) := ⟨by rw [← hq_]; exact (by (with_reducible repeat (first | apply Kd.R_alloc | apply Kd.R_drewN | apply Kd.R_drew)); exact Kd.R_mono HO270.out (fun _ hk => hk.2))⟩; have n3_ : Aside0 (Kd.R (Kd.int .u8) 5 w62 w.heap.size (fun k_ => some k_ ≠ (.slice Ao61 y268.length co61 : Value).ownBlock) (.slice Ao65 y272.length co65) y272) := ⟨by rw [← hq_]; exact (by (with_reducible repeat (first | apply Kd.R_alloc | apply Kd.R_drewN | apply Kd.R_drew)); exact Kd.R_mono HO274.out (fun _ hk => hk.2))⟩; have n4_ : Aside0 (w62.heap[gb254]? = some (.cells #[.int .i64 t250, .int .i64 t251, .int .i64 2, .int .i64 t252, .int .i64 t253, .bool true, .int .i64 0, .int .i64 0, .int .i64 0, .int .i64 0, .int .i64 0, .int .i64 0, .int .i64 0] 27 (0, 0))) := ⟨by rw [← hq_]; exact (bU BK254.out)⟩; have n5_ : Aside0 (w62.heap[gb259]? = some (.cells #[.int .i64 t255, .int .i64 t256, .int .i64 0, .int .i64 t257, .int .i64 t258, .bool false, .int .i64 2, .int .i64 0, .int .i64 0, .int .i64 8, .int .i64 0, .int .i64 0, .int .i64 0] 27 (0, 0))) := ⟨by rw [← hq_]; exact (bU BK259.out)⟩; have n6_ : Aside0 (Below w.heap.size w w62) := ⟨by rw [← hq_]; exact (hU HB.out)⟩; clear HO262 HO266 HO270 HO274 BK254 BK259 HB hq_; have HO262 := n0_; have HO266 := n1_; have HO270 := n2_; have HO274 := n3_; have BK254 := n4_; have BK259 := n5_; have HB := n6_; clear n0_ n1_ n2_ n3_ n4_ n5_ n6_)); (try have hcy254 := blk_cell BK254.out); (try have hfy254 := blk_frozen BK254.out); (try have hcy259 := blk_cell BK259.out); (try have hfy259 := blk_frozen BK259.out); have hcz66_0 := blk_cell BK254.out; have hfz66_0 := blk_frozen BK254.out) | ((with_reducible refine gate_dst (N := 46) rfl ?_); (try (refine gate_guard (by rfl) ?_; dsimp only)); refine Kd.R_lit (Kd.int .u8) _ 5 ?hg (N := 46) ?hd (xs := ([10, 2, 4, 6, 2, 2] : List Int)) (inner := [.int .u8 10, .int .u8 2, .int .u8 4, .int .u8 6, .int .u8 2, .int .u8 2]) (ok := fun _ => True) (okp := fun _ => True) ?hr ?hp (fun _ hk => hk) trivial (Below.refl _ _) (Nat.le_refl _) (by simp) ?_; (case hd => rfl); (case hg => rfl); (case hr => first | (go_simp; done) | (go_simp; rfl)); (case hp => exact (Reps.one (show Kd.M (Kd.int .u8) _ _ _ 10 [.int .u8 10] from rfl) (Reps.one (show Kd.M (Kd.int .u8) _ _ _ 2 [.int .u8 2] from rfl) (Reps.one (show Kd.M (Kd.int .u8) _ _ _ 4 [.int .u8 4] from rfl) (Reps.one (show Kd.M (Kd.int .u8) _ _ _ 6 [.int .u8 6] from rfl) (Reps.one (show Kd.M (Kd.int .u8) _ _ _ 2 [.int .u8 2] from rfl) (Reps.one (show Kd.M (Kd.int .u8) _ _ _ 2 [.int .u8 2] from rfl) (Reps.none _ _)))))))); intro v277 w67 ho68 hb hg_ hnew_; clear hg_ hnew_; (first | rw [← Ny276.out] at ho68 | (simp only [Int.reduceToNat] at ho68; rw [← Ny276.out] at ho68)); have n0_ := Aside0.mk (Kd.V_elder' (Kd.vU HO262.out) (Kd.R_base ho68) hb); have n1_ := Aside0.mk (Kd.V_elder' (Kd.vU HO266.out) (Kd.R_base ho68) hb); have n2_ := Aside0.mk (Kd.R_elder' (Kd.rU HO270.out) (Kd.R_base ho68) hb); have n3_ := Aside0.mk (Kd.R_elder' (Kd.rU HO274.out) (Kd.R_base ho68) hb); have n4_ := Aside0.mk (Kd.R_lower (Kd.R_new' (Kd.R_new' ho68 (Kd.R_lt (Kd.rU HO270.out))) (Kd.R_lt (Kd.rU HO274.out))) (below_size (hU HB.out))); have n5_ := Aside0.mk (blk_below (bU BK254.out) hb); have n6_ := Aside0.mk (blk_below (bU BK259.out) hb); have n7_ := Aside0.mk (below_step (hU HB.out) hb); clear HO262; clear HO266; clear HO270; clear HO274; clear BK254; clear BK259; clear HB; have HO262 := n0_; have HO266 := n1_; have HO270 := n2_; have HO274 := n3_; have HO278 := n4_; have BK254 := n5_; have BK259 := n6_; have HB := n7_; clear n0_ n1_ n2_ n3_ n4_ n5_ n6_ n7_; clear hb ho68; obtain ⟨Ao69, co69, eo69⟩ := Kd.R_slice HO278.out; subst eo69) | ((with_reducible refine gate_callee (f := 31) rfl ?_); refine goesL_ (some 47) rfl rfl Try.func31 (by kernel_rfl) rfl #[.agg #[.int .i64 t250, .int .i64 t251, .int .i64 2, .int .i64 t252, .int .i64 t253, .bool true, .int .i64 0, .int .i64 0, .int .i64 0, .int .i64 0, .int .i64 0, .int .i64 0, .int .i64 0], .int .i64 0, .slice Ao69 y276.length co69] rfl (by (try simp only [List.map_toArray, List.map_cons, List.map_nil]); first | done | rfl | (simp only [List.length_drop, List.length_take]; rfl)) ?_; (with_reducible refine (dancestudiolaw56_takes.calls k t250 t251 2 t252 t253 true 0 0 0 0 0 0 0 0 _ _ y276 true _ ?side1 ?side2 A13.out).mono ?_); (case side1 => repeat (first | exact (Kd.R_reads' HO278.out).2.2 | (with_reducible refine Kd.C_alloc ?_ _) | (with_reducible refine Kd.C_drewN ?_ _) | (with_reducible refine Kd.C_drew ?_))); (case side2 => exact (Kd.R_reads' HO278.out).2.1); rintro e w70 ⟨rfl, hb⟩; refine ⟨_, rfl, ?_⟩; have n0_ := Aside0.mk (Kd.V_below (Kd.vU HO262.out) hb); have n1_ := Aside0.mk (Kd.V_below (Kd.vU HO266.out) hb); have n2_ := Aside0.mk (Kd.R_below (Kd.rU HO270.out) hb); have n3_ := Aside0.mk (Kd.R_below (Kd.rU HO274.out) hb); have n4_ := Aside0.mk (Kd.R_below (Kd.rU HO278.out) hb); have n5_ := Aside0.mk (blk_below (bU BK254.out) hb); have n6_ := Aside0.mk (blk_below (bU BK259.out) hb); have n7_ := Aside0.mk (below_step (hU HB.out) hb); clear HO262; clear HO266; clear HO270; clear HO274; clear HO278; clear BK254; clear BK259; clear HB; have HO262 := n0_; have HO266 := n1_; have HO270 := n2_; have HO274 := n3_; have HO278 := n4_; have BK254 := n5_; have BK259 := n6_; have HB := n7_; clear n0_ n1_ n2_ n3_ n4_ n5_ n6_ n7_; (try clear hb); (try clear hb2); (try clear hk); (try clear hi)) | ((with_reducible refine gate_dst (N := 51) rfl ?_); (try (refine gate_guard (by rfl) ?_; dsimp only)); refine Kd.R_lit (Kd.int .u8) _ 5 ?hg (N := 51) ?hd (xs := ([10, 2, 4, 6, 2, 4] : List Int)) (inner := [.int .u8 10, .int .u8 2, .int .u8 4, .int .u8 6, .int .u8 2, .int .u8 4]) (ok := fun _ => True) (okp := fun _ => True) ?hr ?hp (fun _ hk => hk) trivial (Below.refl _ _) (Nat.le_refl _) (by simp) ?_; (case hd => rfl); (case hg => rfl); (case hr => first | (go_simp; done) | (go_simp; rfl)); (case hp => exact (Reps.one (show Kd.M (Kd.int .u8) _ _ _ 10 [.int .u8 10] from rfl) (Reps.one (show Kd.M (Kd.int .u8) _ _ _ 2 [.int .u8 2] from rfl) (Reps.one (show Kd.M (Kd.int .u8) _ _ _ 4 [.int .u8 4] from rfl) (Reps.one (show Kd.M (Kd.int .u8) _ _ _ 6 [.int .u8 6] from rfl) (Reps.one (show Kd.M (Kd.int .u8) _ _ _ 2 [.int .u8 2] from rfl) (Reps.one (show Kd.M (Kd.int .u8) _ _ _ 4 [.int .u8 4] from rfl) (Reps.none _ _)))))))); intro v281 w71 ho72 hb hg_ hnew_; clear hg_ hnew_; (first | rw [← Ny280.out] at ho72 | (simp only [Int.reduceToNat] at ho72; rw [← Ny280.out] at ho72)); have n0_ := Aside0.mk (Kd.V_elder' (Kd.vU HO262.out) (Kd.R_base ho72) hb); have n1_ := Aside0.mk (Kd.V_elder' (Kd.vU HO266.out) (Kd.R_base ho72) hb); have n2_ := Aside0.mk (Kd.R_elder' (Kd.rU HO270.out) (Kd.R_base ho72) hb); have n3_ := Aside0.mk (Kd.R_elder' (Kd.rU HO274.out) (Kd.R_base ho72) hb); have n4_ := Aside0.mk (Kd.R_elder' (Kd.rU HO278.out) (Kd.R_base ho72) hb); have n5_ := Aside0.mk (Kd.R_lower (Kd.R_new' (Kd.R_new' (Kd.R_new' ho72 (Kd.R_lt (Kd.rU HO270.out))) (Kd.R_lt (Kd.rU HO274.out))) (Kd.R_lt (Kd.rU HO278.out))) (below_size (hU HB.out))); have n6_ := Aside0.mk (blk_below (bU BK254.out) hb); have n7_ := Aside0.mk (blk_below (bU BK259.out) hb); have n8_ := Aside0.mk (below_step (hU HB.out) hb); clear HO262; clear HO266; clear HO270; clear HO274; clear HO278; clear BK254; clear BK259; clear HB; have HO262 := n0_; have HO266 := n1_; have HO270 := n2_; have HO274 := n3_; have HO278 := n4_; have HO282 := n5_; have BK254 := n6_; have BK259 := n7_; have HB := n8_; clear n0_ n1_ n2_ n3_ n4_ n5_ n6_ n7_ n8_; clear hb ho72; obtain ⟨Ao73, co73, eo73⟩ := Kd.R_slice HO282.out; subst eo73) | (go_at_call 31; (with_reducible refine (dancestudiolaw56_takes.calls k 0 0 0 0 0 false 0 0 0 0 0 0 0 2 _ _ y280 true _ ?side1 ?side2 A15.out).mono ?_); (case side1 => repeat (first | exact (Kd.R_reads' HO282.out).2.2 | (with_reducible refine Kd.C_alloc ?_ _) | (with_reducible refine Kd.C_drewN ?_ _) | (with_reducible refine Kd.C_drew ?_))); (case side2 => exact (Kd.R_reads' HO282.out).2.1); rintro e w74 ⟨rfl, hb⟩; have n0_ := Aside0.mk (Kd.V_below (Kd.vU HO262.out) hb); have n1_ := Aside0.mk (Kd.V_below (Kd.vU HO266.out) hb); have n2_ := Aside0.mk (Kd.R_below (Kd.rU HO270.out) hb); have n3_ := Aside0.mk (Kd.R_below (Kd.rU HO274.out) hb); have n4_ := Aside0.mk (Kd.R_below (Kd.rU HO278.out) hb); have n5_ := Aside0.mk (Kd.R_below (Kd.rU HO282.out) hb); have n6_ := Aside0.mk (blk_below (bU BK254.out) hb); have n7_ := Aside0.mk (blk_below (bU BK259.out) hb); have n8_ := Aside0.mk (below_step (hU HB.out) hb); clear HO262; clear HO266; clear HO270; clear HO274; clear HO278; clear HO282; clear BK254; clear BK259; clear HB; have HO262 := n0_; have HO266 := n1_; have HO270 := n2_; have HO274 := n3_; have HO278 := n4_; have HO282 := n5_; have BK254 := n6_; have BK259 := n7_; have HB := n8_; clear n0_ n1_ n2_ n3_ n4_ n5_ n6_ n7_ n8_; (try clear hb); (try clear hb2); (try clear hk); (try clear hi)) | ((with_reducible refine gate_dst (N := 57) rfl ?_); (try (refine gate_guard (by rfl) ?_; dsimp only)); refine Kd.R_lit (Kd.int .u8) _ 5 ?hg (N := 57) ?hd (xs := ([10, 2, 4, 6, 2, 2, 0] : List Int)) (inner := [.int .u8 10, .int .u8 2, .int .u8 4, .int .u8 6, .int .u8 2, .int .u8 2, .int .u8 0]) (ok := fun _ => True) (okp := fun _ => True) ?hr ?hp (fun _ hk => hk) trivial (Below.refl _ _) (Nat.le_refl _) (by simp) ?_; (case hd => rfl); (case hg => rfl); (case hr => first | (go_simp; done) | (go_simp; rfl)); (case hp => exact (Reps.one (show Kd.M (Kd.int .u8) _ _ _ 10 [.int .u8 10] from rfl) (Reps.one (show Kd.M (Kd.int .u8) _ _ _ 2 [.int .u8 2] from rfl) (Reps.one (show Kd.M (Kd.int .u8) _ _ _ 4 [.int .u8 4] from rfl) (Reps.one (show Kd.M (Kd.int .u8) _ _ _ 6 [.int .u8 6] from rfl) (Reps.one (show Kd.M (Kd.int .u8) _ _ _ 2 [.int .u8 2] from rfl) (Reps.one (show Kd.M (Kd.int .u8) _ _ _ 2 [.int .u8 2] from rfl) (Reps.one (show Kd.M (Kd.int .u8) _ _ _ 0 [.int .u8 0] from rfl) (Reps.none _ _))))))))); intro v285 w75 ho76 hb hg_ hnew_; clear hg_ hnew_; (first | rw [← Ny284.out] at ho76 | (simp only [Int.reduceToNat] at ho76; rw [← Ny284.out] at ho76)); have n0_ := Aside0.mk (Kd.V_elder' (Kd.vU HO262.out) (Kd.R_base ho76) hb); have n1_ := Aside0.mk (Kd.V_elder' (Kd.vU HO266.out) (Kd.R_base ho76) hb); have n2_ := Aside0.mk (Kd.R_elder' (Kd.rU HO270.out) (Kd.R_base ho76) hb); have n3_ := Aside0.mk (Kd.R_elder' (Kd.rU HO274.out) (Kd.R_base ho76) hb); have n4_ := Aside0.mk (Kd.R_elder' (Kd.rU HO278.out) (Kd.R_base ho76) hb); have n5_ := Aside0.mk (Kd.R_elder' (Kd.rU HO282.out) (Kd.R_base ho76) hb); have n6_ := Aside0.mk (Kd.R_lower (Kd.R_new' (Kd.R_new' (Kd.R_new' (Kd.R_new' ho76 (Kd.R_lt (Kd.rU HO270.out))) (Kd.R_lt (Kd.rU HO274.out))) (Kd.R_lt (Kd.rU HO278.out))) (Kd.R_lt (Kd.rU HO282.out))) (below_size (hU HB.out))); have n7_ := Aside0.mk (blk_below (bU BK254.out) hb); have n8_ := Aside0.mk (blk_below (bU BK259.out) hb); have n9_ := Aside0.mk (below_step (hU HB.out) hb); clear HO262; clear HO266; clear HO270; clear HO274; clear HO278; clear HO282; clear BK254; clear BK259; clear HB; have HO262 := n0_; have HO266 := n1_; have HO270 := n2_; have HO274 := n3_; have HO278 := n4_; have HO282 := n5_; have HO286 := n6_; have BK254 := n7_; have BK259 := n8_; have HB := n9_; clear n0_ n1_ n2_ n3_ n4_ n5_ n6_ n7_ n8_ n9_; clear hb ho76; obtain ⟨Ao77, co77, eo77⟩ := Kd.R_slice HO286.out; subst eo77) | (go_at_call 31; (with_reducible refine (dancestudiolaw56_takes.calls k 0 0 0 0 0 false 0 0 0 0 0 0 0 2 _ _ y284 true _ ?side1 ?side2 A17.out).mono ?_); (case side1 => repeat (first | exact (Kd.R_reads' HO286.out).2.2 | (with_reducible refine Kd.C_alloc ?_ _) | (with_reducible refine Kd.C_drewN ?_ _) | (with_reducible refine Kd.C_drew ?_))); (case side2 => exact (Kd.R_reads' HO286.out).2.1); rintro e w78 ⟨rfl, hb⟩; have n0_ := Aside0.mk (Kd.V_below (Kd.vU HO262.out) hb); have n1_ := Aside0.mk (Kd.V_below (Kd.vU HO266.out) hb); have n2_ := Aside0.mk (Kd.R_below (Kd.rU HO270.out) hb); have n3_ := Aside0.mk (Kd.R_below (Kd.rU HO274.out) hb); have n4_ := Aside0.mk (Kd.R_below (Kd.rU HO278.out) hb); have n5_ := Aside0.mk (Kd.R_below (Kd.rU HO282.out) hb); have n6_ := Aside0.mk (Kd.R_below (Kd.rU HO286.out) hb); have n7_ := Aside0.mk (blk_below (bU BK254.out) hb); have n8_ := Aside0.mk (blk_below (bU BK259.out) hb); have n9_ := Aside0.mk (below_step (hU HB.out) hb); clear HO262; clear HO266; clear HO270; clear HO274; clear HO278; clear HO282; clear HO286; clear BK254; clear BK259; clear HB; have HO262 := n0_; have HO266 := n1_; have HO270 := n2_; have HO274 := n3_; have HO278 := n4_; have HO282 := n5_; have HO286 := n6_; have BK254 := n7_; have BK259 := n8_; have HB := n9_; clear n0_ n1_ n2_ n3_ n4_ n5_ n6_ n7_ n8_ n9_; (try clear hb); (try clear hb2); (try clear hk); (try clear hi)) | ((with_reducible refine gate_dst (N := 63) rfl ?_); (try (refine gate_guard (by rfl) ?_; dsimp only)); refine Kd.R_lit (Kd.int .u8) _ 5 ?hg (N := 63) ?hd (xs := ([10, 2, 4, 6, 2] : List Int)) (inner := [.int .u8 10, .int .u8 2, .int .u8 4, .int .u8 6, .int .u8 2]) (ok := fun _ => True) (okp := fun _ => True) ?hr ?hp (fun _ hk => hk) trivial (Below.refl _ _) (Nat.le_refl _) (by simp) ?_; (case hd => rfl); (case hg => rfl); (case hr => first | (go_simp; done) | (go_simp; rfl)); (case hp => exact (Reps.one (show Kd.M (Kd.int .u8) _ _ _ 10 [.int .u8 10] from rfl) (Reps.one (show Kd.M (Kd.int .u8) _ _ _ 2 [.int .u8 2] from rfl) (Reps.one (show Kd.M (Kd.int .u8) _ _ _ 4 [.int .u8 4] from rfl) (Reps.one (show Kd.M (Kd.int .u8) _ _ _ 6 [.int .u8 6] from rfl) (Reps.one (show Kd.M (Kd.int .u8) _ _ _ 2 [.int .u8 2] from rfl) (Reps.none _ _))))))); intro v289 w79 ho80 hb hg_ hnew_; clear hg_ hnew_; (first | rw [← Ny288.out] at ho80 | (simp only [Int.reduceToNat] at ho80; rw [← Ny288.out] at ho80)); have n0_ := Aside0.mk (Kd.V_elder' (Kd.vU HO262.out) (Kd.R_base ho80) hb); have n1_ := Aside0.mk (Kd.V_elder' (Kd.vU HO266.out) (Kd.R_base ho80) hb); have n2_ := Aside0.mk (Kd.R_elder' (Kd.rU HO270.out) (Kd.R_base ho80) hb); have n3_ := Aside0.mk (Kd.R_elder' (Kd.rU HO274.out) (Kd.R_base ho80) hb); have n4_ := Aside0.mk (Kd.R_elder' (Kd.rU HO278.out) (Kd.R_base ho80) hb); have n5_ := Aside0.mk (Kd.R_elder' (Kd.rU HO282.out) (Kd.R_base ho80) hb); have n6_ := Aside0.mk (Kd.R_elder' (Kd.rU HO286.out) (Kd.R_base ho80) hb); have n7_ := Aside0.mk (Kd.R_lower (Kd.R_new' (Kd.R_new' (Kd.R_new' (Kd.R_new' (Kd.R_new' ho80 (Kd.R_lt (Kd.rU HO270.out))) (Kd.R_lt (Kd.rU HO274.out))) (Kd.R_lt (Kd.rU HO278.out))) (Kd.R_lt (Kd.rU HO282.out))) (Kd.R_lt (Kd.rU HO286.out))) (below_size (hU HB.out))); have n8_ := Aside0.mk (blk_below (bU BK254.out) hb); have n9_ := Aside0.mk (blk_below (bU BK259.out) hb); have n10_ := Aside0.mk (below_step (hU HB.out) hb); clear HO262; clear HO266; clear HO270; clear HO274; clear HO278; clear HO282; clear HO286; clear BK254; clear BK259; clear HB; have HO262 := n0_; have HO266 := n1_; have HO270 := n2_; have HO274 := n3_; have HO278 := n4_; have HO282 := n5_; have HO286 := n6_; have HO290 := n7_; have BK254 := n8_; have BK259 := n9_; have HB := n10_; clear n0_ n1_ n2_ n3_ n4_ n5_ n6_ n7_ n8_ n9_ n10_; clear hb ho80; obtain ⟨Ao81, co81, eo81⟩ := Kd.R_slice HO290.out; subst eo81) | (go_at_call 31; (with_reducible refine (dancestudiolaw56_takes.calls k 0 0 0 0 0 false 0 0 0 0 0 0 0 13 _ _ y288 true _ ?side1 ?side2 A19.out).mono ?_); (case side1 => repeat (first | exact (Kd.R_reads' HO290.out).2.2 | (with_reducible refine Kd.C_alloc ?_ _) | (with_reducible refine Kd.C_drewN ?_ _) | (with_reducible refine Kd.C_drew ?_))); (case side2 => exact (Kd.R_reads' HO290.out).2.1); rintro e w82 ⟨rfl, hb⟩; have n0_ := Aside0.mk (Kd.V_below (Kd.vU HO262.out) hb); have n1_ := Aside0.mk (Kd.V_below (Kd.vU HO266.out) hb); have n2_ := Aside0.mk (Kd.R_below (Kd.rU HO270.out) hb); have n3_ := Aside0.mk (Kd.R_below (Kd.rU HO274.out) hb); have n4_ := Aside0.mk (Kd.R_below (Kd.rU HO278.out) hb); have n5_ := Aside0.mk (Kd.R_below (Kd.rU HO282.out) hb); have n6_ := Aside0.mk (Kd.R_below (Kd.rU HO286.out) hb); have n7_ := Aside0.mk (Kd.R_below (Kd.rU HO290.out) hb); have n8_ := Aside0.mk (blk_below (bU BK254.out) hb); have n9_ := Aside0.mk (blk_below (bU BK259.out) hb); have n10_ := Aside0.mk (below_step (hU HB.out) hb); clear HO262; clear HO266; clear HO270; clear HO274; clear HO278; clear HO282; clear HO286; clear HO290; clear BK254; clear BK259; clear HB; have HO262 := n0_; have HO266 := n1_; have HO270 := n2_; have HO274 := n3_; have HO278 := n4_; have HO282 := n5_; have HO286 := n6_; have HO290 := n7_; have BK254 := n8_; have BK259 := n9_; have HB := n10_; clear n0_ n1_ n2_ n3_ n4_ n5_ n6_ n7_ n8_ n9_ n10_; (try clear hb); (try clear hb2); (try clear hk); (try clear hi)) | ((with_reducible refine gate_dst (N := 69) rfl ?_); (try (refine gate_guard (by rfl) ?_; dsimp only)); refine Kd.R_lit (Kd.int .u8) _ 5 ?hg (N := 69) ?hd (xs := ([10, 2, 4, 12, 2, 2] : List Int)) (inner := [.int .u8 10, .int .u8 2, .int .u8 4, .int .u8 12, .int .u8 2, .int .u8 2]) (ok := fun _ => True) (okp := fun _ => True) ?hr ?hp (fun _ hk => hk) trivial (Below.refl _ _) (Nat.le_refl _) (by simp) ?_; (case hd => rfl); (case hg => rfl); (case hr => first | (go_simp; done) | (go_simp; rfl)); (case hp => exact (Reps.one (show Kd.M (Kd.int .u8) _ _ _ 10 [.int .u8 10] from rfl) (Reps.one (show Kd.M (Kd.int .u8) _ _ _ 2 [.int .u8 2] from rfl) (Reps.one (show Kd.M (Kd.int .u8) _ _ _ 4 [.int .u8 4] from rfl) (Reps.one (show Kd.M (Kd.int .u8) _ _ _ 12 [.int .u8 12] from rfl) (Reps.one (show Kd.M (Kd.int .u8) _ _ _ 2 [.int .u8 2] from rfl) (Reps.one (show Kd.M (Kd.int .u8) _ _ _ 2 [.int .u8 2] from rfl) (Reps.none _ _)))))))); intro v293 w83 ho84 hb hg_ hnew_; clear hg_ hnew_; (first | rw [← Ny292.out] at ho84 | (simp only [Int.reduceToNat] at ho84; rw [← Ny292.out] at ho84)); have n0_ := Aside0.mk (Kd.V_elder' (Kd.vU HO262.out) (Kd.R_base ho84) hb); have n1_ := Aside0.mk (Kd.V_elder' (Kd.vU HO266.out) (Kd.R_base ho84) hb); have n2_ := Aside0.mk (Kd.R_elder' (Kd.rU HO270.out) (Kd.R_base ho84) hb); have n3_ := Aside0.mk (Kd.R_elder' (Kd.rU HO274.out) (Kd.R_base ho84) hb); have n4_ := Aside0.mk (Kd.R_elder' (Kd.rU HO278.out) (Kd.R_base ho84) hb); have n5_ := Aside0.mk (Kd.R_elder' (Kd.rU HO282.out) (Kd.R_base ho84) hb); have n6_ := Aside0.mk (Kd.R_elder' (Kd.rU HO286.out) (Kd.R_base ho84) hb); have n7_ := Aside0.mk (Kd.R_elder' (Kd.rU HO290.out) (Kd.R_base ho84) hb); have n8_ := Aside0.mk (Kd.R_lower (Kd.R_new' (Kd.R_new' (Kd.R_new' (Kd.R_new' (Kd.R_new' (Kd.R_new' ho84 (Kd.R_lt (Kd.rU HO270.out))) (Kd.R_lt (Kd.rU HO274.out))) (Kd.R_lt (Kd.rU HO278.out))) (Kd.R_lt (Kd.rU HO282.out))) (Kd.R_lt (Kd.rU HO286.out))) (Kd.R_lt (Kd.rU HO290.out))) (below_size (hU HB.out))); have n9_ := Aside0.mk (blk_below (bU BK254.out) hb); have n10_ := Aside0.mk (blk_below (bU BK259.out) hb); have n11_ := Aside0.mk (below_step (hU HB.out) hb); clear HO262; clear HO266; clear HO270; clear HO274; clear HO278; clear HO282; clear HO286; clear HO290; clear BK254; clear BK259; clear HB; have HO262 := n0_; have HO266 := n1_; have HO270 := n2_; have HO274 := n3_; have HO278 := n4_; have HO282 := n5_; have HO286 := n6_; have HO290 := n7_; have HO294 := n8_; have BK254 := n9_; have BK259 := n10_; have HB := n11_; clear n0_ n1_ n2_ n3_ n4_ n5_ n6_ n7_ n8_ n9_ n10_ n11_; clear hb ho84; obtain ⟨Ao85, co85, eo85⟩ := Kd.R_slice HO294.out; subst eo85) | (go_at_call 31; (with_reducible refine (dancestudiolaw56_takes.calls k 0 0 0 0 0 false 0 0 0 0 0 0 0 43 _ _ y292 true _ ?side1 ?side2 A21.out).mono ?_); (case side1 => repeat (first | exact (Kd.R_reads' HO294.out).2.2 | (with_reducible refine Kd.C_alloc ?_ _) | (with_reducible refine Kd.C_drewN ?_ _) | (with_reducible refine Kd.C_drew ?_))); (case side2 => exact (Kd.R_reads' HO294.out).2.1); rintro e w86 ⟨rfl, hb⟩; have n0_ := Aside0.mk (Kd.V_below (Kd.vU HO262.out) hb); have n1_ := Aside0.mk (Kd.V_below (Kd.vU HO266.out) hb); have n2_ := Aside0.mk (Kd.R_below (Kd.rU HO270.out) hb); have n3_ := Aside0.mk (Kd.R_below (Kd.rU HO274.out) hb); have n4_ := Aside0.mk (Kd.R_below (Kd.rU HO278.out) hb); have n5_ := Aside0.mk (Kd.R_below (Kd.rU HO282.out) hb); have n6_ := Aside0.mk (Kd.R_below (Kd.rU HO286.out) hb); have n7_ := Aside0.mk (Kd.R_below (Kd.rU HO290.out) hb); have n8_ := Aside0.mk (Kd.R_below (Kd.rU HO294.out) hb); have n9_ := Aside0.mk (blk_below (bU BK254.out) hb); have n10_ := Aside0.mk (blk_below (bU BK259.out) hb); have n11_ := Aside0.mk (below_step (hU HB.out) hb); clear HO262; clear HO266; clear HO270; clear HO274; clear HO278; clear HO282; clear HO286; clear HO290; clear HO294; clear BK254; clear BK259; clear HB; have HO262 := n0_; have HO266 := n1_; have HO270 := n2_; have HO274 := n3_; have HO278 := n4_; have HO282 := n5_; have HO286 := n6_; have HO290 := n7_; have HO294 := n8_; have BK254 := n9_; have BK259 := n10_; have HB := n11_; clear n0_ n1_ n2_ n3_ n4_ n5_ n6_ n7_ n8_ n9_ n10_ n11_; (try clear hb); (try clear hb2); (try clear hk); (try clear hi)) | ((with_reducible refine gate_callee (f := 30) rfl ?_); refine goesL_ (some 74) rfl rfl Try.func30 (by kernel_rfl) rfl #[.int .i64 5, .int .i64 1] rfl (by (try simp only [List.map_toArray, List.map_cons, List.map_nil]); first | done | rfl | (simp only [List.length_drop, List.length_take]; rfl)) ?_; (with_reducible refine (dancestudiolaw56_stamp.calls 5 1 t296 t297 _ A23.out).mono ?_); rintro e w87 ⟨rfl, hb⟩; refine ⟨_, rfl, ?_⟩; have n0_ := Aside0.mk (Kd.V_below (Kd.vU HO262.out) hb); have n1_ := Aside0.mk (Kd.V_below (Kd.vU HO266.out) hb); have n2_ := Aside0.mk (Kd.R_below (Kd.rU HO270.out) hb); have n3_ := Aside0.mk (Kd.R_below (Kd.rU HO274.out) hb); have n4_ := Aside0.mk (Kd.R_below (Kd.rU HO278.out) hb); have n5_ := Aside0.mk (Kd.R_below (Kd.rU HO282.out) hb); have n6_ := Aside0.mk (Kd.R_below (Kd.rU HO286.out) hb); have n7_ := Aside0.mk (Kd.R_below (Kd.rU HO290.out) hb); have n8_ := Aside0.mk (Kd.R_below (Kd.rU HO294.out) hb); have n9_ := Aside0.mk (blk_below (bU BK254.out) hb); have n10_ := Aside0.mk (blk_below (bU BK259.out) hb); have n11_ := Aside0.mk (below_step (hU HB.out) hb); clear HO262; clear HO266; clear HO270; clear HO274; clear HO278; clear HO282; clear HO286; clear HO290; clear HO294; clear BK254; clear BK259; clear HB; have HO262 := n0_; have HO266 := n1_; have HO270 := n2_; have HO274 := n3_; have HO278 := n4_; have HO282 := n5_; have HO286 := n6_; have HO290 := n7_; have HO294 := n8_; have BK254 := n9_; have BK259 := n10_; have HB := n11_; clear n0_ n1_ n2_ n3_ n4_ n5_ n6_ n7_ n8_ n9_ n10_ n11_; (try clear hb); (try clear hb2); (try clear hk); (try clear hi)) | ((with_reducible refine gate_callee (f := 30) rfl ?_); refine goesL_ (some 75) rfl rfl Try.func30 (by kernel_rfl) rfl #[.int .i64 3, .int .i64 2] rfl (by (try simp only [List.map_toArray, List.map_cons, List.map_nil]); first | done | rfl | (simp only [List.length_drop, List.length_take]; rfl)) ?_; (with_reducible refine (dancestudiolaw56_stamp.calls 3 2 t298 t299 _ A24.out).mono ?_); rintro e w88 ⟨rfl, hb⟩; refine ⟨_, rfl, ?_⟩; have n0_ := Aside0.mk (Kd.V_below (Kd.vU HO262.out) hb); have n1_ := Aside0.mk (Kd.V_below (Kd.vU HO266.out) hb); have n2_ := Aside0.mk (Kd.R_below (Kd.rU HO270.out) hb); have n3_ := Aside0.mk (Kd.R_below (Kd.rU HO274.out) hb); have n4_ := Aside0.mk (Kd.R_below (Kd.rU HO278.out) hb); have n5_ := Aside0.mk (Kd.R_below (Kd.rU HO282.out) hb); have n6_ := Aside0.mk (Kd.R_below (Kd.rU HO286.out) hb); have n7_ := Aside0.mk (Kd.R_below (Kd.rU HO290.out) hb); have n8_ := Aside0.mk (Kd.R_below (Kd.rU HO294.out) hb); have n9_ := Aside0.mk (blk_below (bU BK254.out) hb); have n10_ := Aside0.mk (blk_below (bU BK259.out) hb); have n11_ := Aside0.mk (below_step (hU HB.out) hb); clear HO262; clear HO266; clear HO270; clear HO274; clear HO278; clear HO282; clear HO286; clear HO290; clear HO294; clear BK254; clear BK259; clear HB; have HO262 := n0_; have HO266 := n1_; have HO270 := n2_; have HO274 := n3_; have HO278 := n4_; have HO282 := n5_; have HO286 := n6_; have HO290 := n7_; have HO294 := n8_; have BK254 := n9_; have BK259 := n10_; have HB := n11_; clear n0_ n1_ n2_ n3_ n4_ n5_ n6_ n7_ n8_ n9_ n10_ n11_; (try clear hb); (try clear hb2); (try clear hk); (try clear hi)) | ((with_reducible refine gate_dst (N := 76) rfl ?_); (try (refine gate_guard (by rfl) ?_; dsimp only)); refine Kd.R_lit k23 _ 23 ?hg (N := 76) ?hd (xs := ([(⟨t296, t297⟩ : S23), (⟨t298, t299⟩ : S23)] : List (S23))) (inner := [.int .i64 t296, .int .i64 t297, .int .i64 t298, .int .i64 t299]) (ok := fun _ => True) (okp := fun _ => True) ?hr ?hp (fun _ hk => hk) trivial (Below.refl _ _) (Nat.le_refl _) (by simp) ?_; (case hd => rfl); (case hg => rfl); (case hr => first | (go_simp; done) | (go_simp; rfl)); (case hp => exact (Reps.c2 (show Kd.M k23 _ _ _ (⟨t296, t297⟩ : S23) [.int .i64 t296, .int .i64 t297] from (k23_mkM _ _ _ (⟨t296, t297⟩ : S23) )) (Reps.c2 (show Kd.M k23 _ _ _ (⟨t298, t299⟩ : S23) [.int .i64 t298, .int .i64 t299] from (k23_mkM _ _ _ (⟨t298, t299⟩ : S23) )) (Reps.none _ _)))); intro v301 w89 ho90 hb hg_ hnew_; clear hg_ hnew_; (first | rw [← Ny300.out] at ho90 | (simp only [Int.reduceToNat] at ho90; rw [← Ny300.out] at ho90)); have n0_ := Aside0.mk (Kd.V_elder' (Kd.vU HO262.out) (Kd.R_base ho90) hb); have n1_ := Aside0.mk (Kd.V_elder' (Kd.vU HO266.out) (Kd.R_base ho90) hb); have n2_ := Aside0.mk (Kd.R_below (Kd.rU HO270.out) hb); have n3_ := Aside0.mk (Kd.R_below (Kd.rU HO274.out) hb); have n4_ := Aside0.mk (Kd.R_below (Kd.rU HO278.out) hb); have n5_ := Aside0.mk (Kd.R_below (Kd.rU HO282.out) hb); have n6_ := Aside0.mk (Kd.R_below (Kd.rU HO286.out) hb); have n7_ := Aside0.mk (Kd.R_below (Kd.rU HO290.out) hb); have n8_ := Aside0.mk (Kd.R_below (Kd.rU HO294.out) hb); have n9_ := Aside0.mk (Kd.R_lower ho90 (below_size (hU HB.out))); have n10_ := Aside0.mk (blk_below (bU BK254.out) hb); have n11_ := Aside0.mk (blk_below (bU BK259.out) hb); have n12_ := Aside0.mk (below_step (hU HB.out) hb); clear HO262; clear HO266; clear HO270; clear HO274; clear HO278; clear HO282; clear HO286; clear HO290; clear HO294; clear BK254; clear BK259; clear HB; have HO262 := n0_; have HO266 := n1_; have HO270 := n2_; have HO274 := n3_; have HO278 := n4_; have HO282 := n5_; have HO286 := n6_; have HO290 := n7_; have HO294 := n8_; have HO302 := n9_; have BK254 := n10_; have BK259 := n11_; have HB := n12_; clear n0_ n1_ n2_ n3_ n4_ n5_ n6_ n7_ n8_ n9_ n10_ n11_ n12_; clear hb ho90; obtain ⟨Ao91, co91, eo91⟩ := Kd.R_slice HO302.out; subst eo91) | ((with_reducible refine gate_callee (f := 19) rfl ?_); refine goesL_ (some 77) rfl rfl Try.func19 (by kernel_rfl) rfl #[.int .i64 2, .slice Ao91 y300.length co91] rfl (by (try simp only [List.map_toArray, List.map_cons, List.map_nil]); first | done | rfl | (simp only [List.length_drop, List.length_take]; rfl)) ?_; (with_reducible refine (edits_Next.calls k 2 _ _ y300 t303 t304 t305 _ ?side1 ?side2 A25.out).mono ?_); (case side1 => repeat (first | exact (Kd.R_reads' HO302.out).2.2 | (with_reducible refine Kd.C_alloc ?_ _) | (with_reducible refine Kd.C_drewN ?_ _) | (with_reducible refine Kd.C_drew ?_))); (case side2 => exact (Kd.R_reads' HO302.out).2.1); rintro e w92 ⟨rfl, hb⟩; refine ⟨_, rfl, ?_⟩; have n0_ := Aside0.mk (Kd.V_below (Kd.vU HO262.out) hb); have n1_ := Aside0.mk (Kd.V_below (Kd.vU HO266.out) hb); have n2_ := Aside0.mk (Kd.R_below (Kd.rU HO270.out) hb); have n3_ := Aside0.mk (Kd.R_below (Kd.rU HO274.out) hb); have n4_ := Aside0.mk (Kd.R_below (Kd.rU HO278.out) hb); have n5_ := Aside0.mk (Kd.R_below (Kd.rU HO282.out) hb); have n6_ := Aside0.mk (Kd.R_below (Kd.rU HO286.out) hb); have n7_ := Aside0.mk (Kd.R_below (Kd.rU HO290.out) hb); have n8_ := Aside0.mk (Kd.R_below (Kd.rU HO294.out) hb); have n9_ := Aside0.mk (Kd.R_below (Kd.rU HO302.out) hb); have n10_ := Aside0.mk (blk_below (bU BK254.out) hb); have n11_ := Aside0.mk (blk_below (bU BK259.out) hb); have n12_ := Aside0.mk (below_step (hU HB.out) hb); clear HO262; clear HO266; clear HO270; clear HO274; clear HO278; clear HO282; clear HO286; clear HO290; clear HO294; clear HO302; clear BK254; clear BK259; clear HB; have HO262 := n0_; have HO266 := n1_; have HO270 := n2_; have HO274 := n3_; have HO278 := n4_; have HO282 := n5_; have HO286 := n6_; have HO290 := n7_; have HO294 := n8_; have HO302 := n9_; have BK254 := n10_; have BK259 := n11_; have HB := n12_; clear n0_ n1_ n2_ n3_ n4_ n5_ n6_ n7_ n8_ n9_ n10_ n11_ n12_; (try clear hb); (try clear hb2); (try clear hk); (try clear hi)) | ((with_reducible refine gate_dst (N := 7) rfl ?_); (try (refine gate_guard (by rfl) ?_; dsimp only)); refine box_event ?hg (N := 7) ?hd (cs := #[.int .i64 0, .int .i64 0]) (t := 23) ?hr ?_; (case hd => rfl); (case hg => rfl); (case hr => first | (go_simp; done) | (go_simp; rfl)); intro gb306 hg w93 hbox hb; have n0_ := Aside0.mk (Kd.V_below (Kd.V_elderB (Kd.vU HO262.out) gb306 (Nat.le_of_eq hg.symm)) hb); have n1_ := Aside0.mk (Kd.V_below (Kd.V_elderB (Kd.vU HO266.out) gb306 (Nat.le_of_eq hg.symm)) hb); have n2_ := Aside0.mk (Kd.R_below (Kd.rU HO270.out) hb); have n3_ := Aside0.mk (Kd.R_below (Kd.rU HO274.out) hb); have n4_ := Aside0.mk (Kd.R_below (Kd.rU HO278.out) hb); have n5_ := Aside0.mk (Kd.R_below (Kd.rU HO282.out) hb); have n6_ := Aside0.mk (Kd.R_below (Kd.rU HO286.out) hb); have n7_ := Aside0.mk (Kd.R_below (Kd.rU HO290.out) hb); have n8_ := Aside0.mk (Kd.R_below (Kd.rU HO294.out) hb); have n9_ := Aside0.mk (Kd.R_below (Kd.R_elderB (Kd.rU HO302.out) gb306 (Nat.le_of_eq hg.symm)) hb); have n10_ := Aside0.mk (blk_below (bU BK254.out) hb); have n11_ := Aside0.mk (blk_below (bU BK259.out) hb); have n12_ := Aside0.mk (below_step (hU HB.out) hb); have n13_ := Aside0.mk (hbox); have n14_ := Aside0.mk ((by rw [hg]; exact (below_size (hU HB.out)) : w.heap.size ≤ gb306)); have n15_ := Aside0.mk ((by rw [hg]; exact (below_size (hU HB.out)) : w.heap.size ≤ gb306)); have n16_ := Aside0.mk ((by rw [hg]; exact Nat.ne_of_lt (blk_lt (bU BK254.out)) : gb254 ≠ gb306)); have n17_ := Aside0.mk ((by rw [hg]; exact Nat.ne_of_gt (blk_lt (bU BK254.out)) : gb306 ≠ gb254)); have n18_ := Aside0.mk ((by rw [hg]; exact Nat.ne_of_lt (blk_lt (bU BK259.out)) : gb259 ≠ gb306)); have n19_ := Aside0.mk ((by rw [hg]; exact Nat.ne_of_gt (blk_lt (bU BK259.out)) : gb306 ≠ gb259)); clear HO262; clear HO266; clear HO270; clear HO274; clear HO278; clear HO282; clear HO286; clear HO290; clear HO294; clear HO302; clear BK254; clear BK259; clear HB; have HO262 := n0_; have HO266 := n1_; have HO270 := n2_; have HO274 := n3_; have HO278 := n4_; have HO282 := n5_; have HO286 := n6_; have HO290 := n7_; have HO294 := n8_; have HO302 := n9_; have BK254 := n10_; have BK259 := n11_; have HB := n12_; have BK306 := n13_; have GW306 := n14_; have GE306 := n15_; have NB254_306 := n16_; have NB306_254 := n17_; have NB259_306 := n18_; have NB306_259 := n19_; clear n0_ n1_ n2_ n3_ n4_ n5_ n6_ n7_ n8_ n9_ n10_ n11_ n12_ n13_ n14_ n15_ n16_ n17_ n18_ n19_; clear hb hbox hg; have hnb94 := NB306_254.out; have hnc94 := NB254_306.out; have hnb95 := NB306_259.out; have hnc95 := NB259_306.out; have hcz96_0 := blk_cell BK306.out; have hfz96_0 := blk_frozen BK306.out) | ((with_reducible refine gate_callee (f := 19) rfl ?_); refine goesL_ (some 81) rfl rfl Try.func19 (by kernel_rfl) rfl #[.int .i64 65, .slice none 0 0] rfl (by (try simp only [List.map_toArray, List.map_cons, List.map_nil]); first | done | rfl | (simp only [List.length_drop, List.length_take]; rfl)) ?_; (refine (edits_Next.calls k 65 _ _ ([] : List (S23)) t307 t308 t309 _ ?side1 ?side2 A26.out).mono ?_); (case side1 => exact Kd.C_nil _ _); (case side2 => exact Nat.le_refl _); rintro e w97 ⟨rfl, hb⟩; refine ⟨_, rfl, ?_⟩; have n0_ := Aside0.mk (Kd.V_below (by (with_reducible repeat (first | apply Kd.V_alloc | apply Kd.V_drewN | apply Kd.V_drew)); exact (Kd.V_mono (Kd.V_far (p := ⟨gb306, 1, none⟩) (Kd.V_far (p := ⟨gb306, 0, none⟩) (Kd.V_mono HO262.out (fun k_ hk => (⟨hk, hk.2⟩ : _ ∧ k_ ≠ gb306))) (fun _ hk => hk.2) (.int .i64 t303)) (fun _ hk => hk.2) (.int .i64 t304)) (fun _ h_ => h_.1))) hb); have n1_ := Aside0.mk (Kd.V_below (by (with_reducible repeat (first | apply Kd.V_alloc | apply Kd.V_drewN | apply Kd.V_drew)); exact (Kd.V_mono (Kd.V_far (p := ⟨gb306, 1, none⟩) (Kd.V_far (p := ⟨gb306, 0, none⟩) (Kd.V_mono HO266.out (fun k_ hk => (⟨hk, hk.2⟩ : _ ∧ k_ ≠ gb306))) (fun _ hk => hk.2) (.int .i64 t303)) (fun _ hk => hk.2) (.int .i64 t304)) (fun _ h_ => h_.1))) hb); have n2_ := Aside0.mk (Kd.R_below (by (with_reducible repeat (first | apply Kd.R_alloc | apply Kd.R_drewN | apply Kd.R_drew)); exact (Kd.R_mono (Kd.R_far (p := ⟨gb306, 1, none⟩) (Kd.R_far (p := ⟨gb306, 0, none⟩) (Kd.R_types HO270.out BK306.out (by decide)) (fun _ hk => hk.2) (.int .i64 t303)) (fun _ hk => hk.2) (.int .i64 t304)) (fun _ h_ => h_.1))) hb); have n3_ := Aside0.mk (Kd.R_below (by (with_reducible repeat (first | apply Kd.R_alloc | apply Kd.R_drewN | apply Kd.R_drew)); exact (Kd.R_mono (Kd.R_far (p := ⟨gb306, 1, none⟩) (Kd.R_far (p := ⟨gb306, 0, none⟩) (Kd.R_types HO274.out BK306.out (by decide)) (fun _ hk => hk.2) (.int .i64 t303)) (fun _ hk => hk.2) (.int .i64 t304)) (fun _ h_ => h_.1))) hb); have n4_ := Aside0.mk (Kd.R_below (by (with_reducible repeat (first | apply Kd.R_alloc | apply Kd.R_drewN | apply Kd.R_drew)); exact (Kd.R_mono (Kd.R_far (p := ⟨gb306, 1, none⟩) (Kd.R_far (p := ⟨gb306, 0, none⟩) (Kd.R_types HO278.out BK306.out (by decide)) (fun _ hk => hk.2) (.int .i64 t303)) (fun _ hk => hk.2) (.int .i64 t304)) (fun _ h_ => h_.1))) hb); have n5_ := Aside0.mk (Kd.R_below (by (with_reducible repeat (first | apply Kd.R_alloc | apply Kd.R_drewN | apply Kd.R_drew)); exact (Kd.R_mono (Kd.R_far (p := ⟨gb306, 1, none⟩) (Kd.R_far (p := ⟨gb306, 0, none⟩) (Kd.R_types HO282.out BK306.out (by decide)) (fun _ hk => hk.2) (.int .i64 t303)) (fun _ hk => hk.2) (.int .i64 t304)) (fun _ h_ => h_.1))) hb); have n6_ := Aside0.mk (Kd.R_below (by (with_reducible repeat (first | apply Kd.R_alloc | apply Kd.R_drewN | apply Kd.R_drew)); exact (Kd.R_mono (Kd.R_far (p := ⟨gb306, 1, none⟩) (Kd.R_far (p := ⟨gb306, 0, none⟩) (Kd.R_types HO286.out BK306.out (by decide)) (fun _ hk => hk.2) (.int .i64 t303)) (fun _ hk => hk.2) (.int .i64 t304)) (fun _ h_ => h_.1))) hb); have n7_ := Aside0.mk (Kd.R_below (by (with_reducible repeat (first | apply Kd.R_alloc | apply Kd.R_drewN | apply Kd.R_drew)); exact (Kd.R_mono (Kd.R_far (p := ⟨gb306, 1, none⟩) (Kd.R_far (p := ⟨gb306, 0, none⟩) (Kd.R_types HO290.out BK306.out (by decide)) (fun _ hk => hk.2) (.int .i64 t303)) (fun _ hk => hk.2) (.int .i64 t304)) (fun _ h_ => h_.1))) hb); have n8_ := Aside0.mk (Kd.R_below (by (with_reducible repeat (first | apply Kd.R_alloc | apply Kd.R_drewN | apply Kd.R_drew)); exact (Kd.R_mono (Kd.R_far (p := ⟨gb306, 1, none⟩) (Kd.R_far (p := ⟨gb306, 0, none⟩) (Kd.R_types HO294.out BK306.out (by decide)) (fun _ hk => hk.2) (.int .i64 t303)) (fun _ hk => hk.2) (.int .i64 t304)) (fun _ h_ => h_.1))) hb); have n9_ := Aside0.mk (Kd.R_below (by (with_reducible repeat (first | apply Kd.R_alloc | apply Kd.R_drewN | apply Kd.R_drew)); exact (Kd.R_mono (Kd.R_far (p := ⟨gb306, 1, none⟩) (Kd.R_far (p := ⟨gb306, 0, none⟩) (Kd.R_mono HO302.out (fun k_ hk => (⟨hk, hk.2⟩ : _ ∧ k_ ≠ gb306))) (fun _ hk => hk.2) (.int .i64 t303)) (fun _ hk => hk.2) (.int .i64 t304)) (fun _ h_ => h_.1))) hb); have n10_ := Aside0.mk (blk_below (g := gb254) (o := .cells #[.int .i64 t250, .int .i64 t251, .int .i64 2, .int .i64 t252, .int .i64 t253, .bool true, .int .i64 0, .int .i64 0, .int .i64 0, .int .i64 0, .int .i64 0, .int .i64 0, .int .i64 0] 27 (0, 0)) (by (with_reducible repeat (first | refine blk_drewN ?_ _ | refine blk_drew ?_ | refine blk_alloc ?_ _)); refine blk_far ?_ NB254_306.out _; (with_reducible repeat (first | refine blk_drewN ?_ _ | refine blk_drew ?_ | refine blk_alloc ?_ _)); refine blk_far ?_ NB254_306.out _; (with_reducible repeat (first | refine blk_drewN ?_ _ | refine blk_drew ?_ | refine blk_alloc ?_ _)); exact BK254.out) hb); have n11_ := Aside0.mk (blk_below (g := gb259) (o := .cells #[.int .i64 t255, .int .i64 t256, .int .i64 0, .int .i64 t257, .int .i64 t258, .bool false, .int .i64 2, .int .i64 0, .int .i64 0, .int .i64 8, .int .i64 0, .int .i64 0, .int .i64 0] 27 (0, 0)) (by (with_reducible repeat (first | refine blk_drewN ?_ _ | refine blk_drew ?_ | refine blk_alloc ?_ _)); refine blk_far ?_ NB259_306.out _; (with_reducible repeat (first | refine blk_drewN ?_ _ | refine blk_drew ?_ | refine blk_alloc ?_ _)); refine blk_far ?_ NB259_306.out _; (with_reducible repeat (first | refine blk_drewN ?_ _ | refine blk_drew ?_ | refine blk_alloc ?_ _)); exact BK259.out) hb); have n12_ := Aside0.mk (blk_below (g := gb306) (o := .cells #[.int .i64 t303, .int .i64 t304] 23 (0, 0)) (by (with_reducible repeat (first | refine blk_drewN ?_ _ | refine blk_drew ?_ | refine blk_alloc ?_ _)); refine blk_put (cs := #[.int .i64 t303, .int .i64 0]) ?_ 1 _ rfl; (with_reducible repeat (first | refine blk_drewN ?_ _ | refine blk_drew ?_ | refine blk_alloc ?_ _)); refine blk_put (cs := #[.int .i64 0, .int .i64 0]) ?_ 0 _ rfl; (with_reducible repeat (first | refine blk_drewN ?_ _ | refine blk_drew ?_ | refine blk_alloc ?_ _)); exact BK306.out) hb); have n13_ := Aside0.mk (below_step (hU HB.out) hb); clear HO262; clear HO266; clear HO270; clear HO274; clear HO278; clear HO282; clear HO286; clear HO290; clear HO294; clear HO302; clear BK254; clear BK259; clear BK306; clear HB; have HO262 := n0_; have HO266 := n1_; have HO270 := n2_; have HO274 := n3_; have HO278 := n4_; have HO282 := n5_; have HO286 := n6_; have HO290 := n7_; have HO294 := n8_; have HO302 := n9_; have BK254 := n10_; have BK259 := n11_; have BK306 := n12_; have HB := n13_; clear n0_ n1_ n2_ n3_ n4_ n5_ n6_ n7_ n8_ n9_ n10_ n11_ n12_ n13_; (try clear hb); (try clear hb2); (try clear hk); (try clear hi)) | ((with_reducible refine gate_callee (f := 30) rfl ?_); refine goesL_ (some 85) rfl rfl Try.func30 (by kernel_rfl) rfl #[.int .i64 1000000, .int .i64 1] rfl (by (try simp only [List.map_toArray, List.map_cons, List.map_nil]); first | done | rfl | (simp only [List.length_drop, List.length_take]; rfl)) ?_; (with_reducible refine (dancestudiolaw56_stamp.calls 1000000 1 t310 t311 _ A27.out).mono ?_); rintro e w98 ⟨rfl, hb⟩; refine ⟨_, rfl, ?_⟩; have n0_ := Aside0.mk (Kd.V_below (Kd.vU HO262.out) hb); have n1_ := Aside0.mk (Kd.V_below (Kd.vU HO266.out) hb); have n2_ := Aside0.mk (Kd.R_below (Kd.rU HO270.out) hb); have n3_ := Aside0.mk (Kd.R_below (Kd.rU HO274.out) hb); have n4_ := Aside0.mk (Kd.R_below (Kd.rU HO278.out) hb); have n5_ := Aside0.mk (Kd.R_below (Kd.rU HO282.out) hb); have n6_ := Aside0.mk (Kd.R_below (Kd.rU HO286.out) hb); have n7_ := Aside0.mk (Kd.R_below (Kd.rU HO290.out) hb); have n8_ := Aside0.mk (Kd.R_below (Kd.rU HO294.out) hb); have n9_ := Aside0.mk (Kd.R_below (Kd.rU HO302.out) hb); have n10_ := Aside0.mk (blk_below (bU BK254.out) hb); have n11_ := Aside0.mk (blk_below (bU BK259.out) hb); have n12_ := Aside0.mk (blk_below (bU BK306.out) hb); have n13_ := Aside0.mk (below_step (hU HB.out) hb); clear HO262; clear HO266; clear HO270; clear HO274; clear HO278; clear HO282; clear HO286; clear HO290; clear HO294; clear HO302; clear BK254; clear BK259; clear BK306; clear HB; have HO262 := n0_; have HO266 := n1_; have HO270 := n2_; have HO274 := n3_; have HO278 := n4_; have HO282 := n5_; have HO286 := n6_; have HO290 := n7_; have HO294 := n8_; have HO302 := n9_; have BK254 := n10_; have BK259 := n11_; have BK306 := n12_; have HB := n13_; clear n0_ n1_ n2_ n3_ n4_ n5_ n6_ n7_ n8_ n9_ n10_ n11_ n12_ n13_; (try clear hb); (try clear hb2); (try clear hk); (try clear hi)) | ((with_reducible refine gate_dst (N := 86) rfl ?_); (try (refine gate_guard (by rfl) ?_; dsimp only)); refine Kd.R_lit k23 _ 23 ?hg (N := 86) ?hd (xs := ([(⟨t310, t311⟩ : S23)] : List (S23))) (inner := [.int .i64 t310, .int .i64 t311]) (ok := fun _ => True) (okp := fun _ => True) ?hr ?hp (fun _ hk => hk) trivial (Below.refl _ _) (Nat.le_refl _) (by simp) ?_; (case hd => rfl); (case hg => rfl); (case hr => first | (go_simp; done) | (go_simp; rfl)); (case hp => exact (Reps.c2 (show Kd.M k23 _ _ _ (⟨t310, t311⟩ : S23) [.int .i64 t310, .int .i64 t311] from (k23_mkM _ _ _ (⟨t310, t311⟩ : S23) )) (Reps.none _ _))); intro v313 w99 ho100 hb hg_ hnew_; clear hg_ hnew_; (first | rw [← Ny312.out] at ho100 | (simp only [Int.reduceToNat] at ho100; rw [← Ny312.out] at ho100)); have n0_ := Aside0.mk (Kd.V_elder' (Kd.vU HO262.out) (Kd.R_base ho100) hb); have n1_ := Aside0.mk (Kd.V_elder' (Kd.vU HO266.out) (Kd.R_base ho100) hb); have n2_ := Aside0.mk (Kd.R_below (Kd.rU HO270.out) hb); have n3_ := Aside0.mk (Kd.R_below (Kd.rU HO274.out) hb); have n4_ := Aside0.mk (Kd.R_below (Kd.rU HO278.out) hb); have n5_ := Aside0.mk (Kd.R_below (Kd.rU HO282.out) hb); have n6_ := Aside0.mk (Kd.R_below (Kd.rU HO286.out) hb); have n7_ := Aside0.mk (Kd.R_below (Kd.rU HO290.out) hb); have n8_ := Aside0.mk (Kd.R_below (Kd.rU HO294.out) hb); have n9_ := Aside0.mk (Kd.R_elder' (Kd.rU HO302.out) (Kd.R_base ho100) hb); have n10_ := Aside0.mk (Kd.R_lower (Kd.R_newB (Kd.R_new' ho100 (Kd.R_lt (Kd.rU HO302.out))) (bU BK306.out)) (below_size (hU HB.out))); have n11_ := Aside0.mk (blk_below (bU BK254.out) hb); have n12_ := Aside0.mk (blk_below (bU BK259.out) hb); have n13_ := Aside0.mk (blk_below (bU BK306.out) hb); have n14_ := Aside0.mk (below_step (hU HB.out) hb); clear HO262; clear HO266; clear HO270; clear HO274; clear HO278; clear HO282; clear HO286; clear HO290; clear HO294; clear HO302; clear BK254; clear BK259; clear BK306; clear HB; have HO262 := n0_; have HO266 := n1_; have HO270 := n2_; have HO274 := n3_; have HO278 := n4_; have HO282 := n5_; have HO286 := n6_; have HO290 := n7_; have HO294 := n8_; have HO302 := n9_; have HO314 := n10_; have BK254 := n11_; have BK259 := n12_; have BK306 := n13_; have HB := n14_; clear n0_ n1_ n2_ n3_ n4_ n5_ n6_ n7_ n8_ n9_ n10_ n11_ n12_ n13_ n14_; clear hb ho100; obtain ⟨Ao101, co101, eo101⟩ := Kd.R_slice HO314.out; subst eo101) | ((with_reducible refine gate_callee (f := 19) rfl ?_); refine goesL_ (some 87) rfl rfl Try.func19 (by kernel_rfl) rfl #[.int .i64 1, .slice Ao101 y312.length co101] rfl (by (try simp only [List.map_toArray, List.map_cons, List.map_nil]); first | done | rfl | (simp only [List.length_drop, List.length_take]; rfl)) ?_; (with_reducible refine (edits_Next.calls k 1 _ _ y312 t315 t316 t317 _ ?side1 ?side2 A28.out).mono ?_); (case side1 => repeat (first | exact (Kd.R_reads' HO314.out).2.2 | (with_reducible refine Kd.C_alloc ?_ _) | (with_reducible refine Kd.C_drewN ?_ _) | (with_reducible refine Kd.C_drew ?_))); (case side2 => exact (Kd.R_reads' HO314.out).2.1); rintro e w102 ⟨rfl, hb⟩; refine ⟨_, rfl, ?_⟩; have n0_ := Aside0.mk (Kd.V_below (Kd.vU HO262.out) hb); have n1_ := Aside0.mk (Kd.V_below (Kd.vU HO266.out) hb); have n2_ := Aside0.mk (Kd.R_below (Kd.rU HO270.out) hb); have n3_ := Aside0.mk (Kd.R_below (Kd.rU HO274.out) hb); have n4_ := Aside0.mk (Kd.R_below (Kd.rU HO278.out) hb); have n5_ := Aside0.mk (Kd.R_below (Kd.rU HO282.out) hb); have n6_ := Aside0.mk (Kd.R_below (Kd.rU HO286.out) hb); have n7_ := Aside0.mk (Kd.R_below (Kd.rU HO290.out) hb); have n8_ := Aside0.mk (Kd.R_below (Kd.rU HO294.out) hb); have n9_ := Aside0.mk (Kd.R_below (Kd.rU HO302.out) hb); have n10_ := Aside0.mk (Kd.R_below (Kd.rU HO314.out) hb); have n11_ := Aside0.mk (blk_below (bU BK254.out) hb); have n12_ := Aside0.mk (blk_below (bU BK259.out) hb); have n13_ := Aside0.mk (blk_below (bU BK306.out) hb); have n14_ := Aside0.mk (below_step (hU HB.out) hb); clear HO262; clear HO266; clear HO270; clear HO274; clear HO278; clear HO282; clear HO286; clear HO290; clear HO294; clear HO302; clear HO314; clear BK254; clear BK259; clear BK306; clear HB; have HO262 := n0_; have HO266 := n1_; have HO270 := n2_; have HO274 := n3_; have HO278 := n4_; have HO282 := n5_; have HO286 := n6_; have HO290 := n7_; have HO294 := n8_; have HO302 := n9_; have HO314 := n10_; have BK254 := n11_; have BK259 := n12_; have BK306 := n13_; have HB := n14_; clear n0_ n1_ n2_ n3_ n4_ n5_ n6_ n7_ n8_ n9_ n10_ n11_ n12_ n13_ n14_; (try clear hb); (try clear hb2); (try clear hk); (try clear hi)) | ((with_reducible refine gate_dst (N := 8) rfl ?_); (try (refine gate_guard (by rfl) ?_; dsimp only)); refine box_event ?hg (N := 8) ?hd (cs := #[.int .i64 0, .int .i64 0]) (t := 23) ?hr ?_; (case hd => rfl); (case hg => rfl); (case hr => first | (go_simp; done) | (go_simp; rfl)); intro gb318 hg w103 hbox hb; have n0_ := Aside0.mk (Kd.V_below (Kd.V_elderB (Kd.vU HO262.out) gb318 (Nat.le_of_eq hg.symm)) hb); have n1_ := Aside0.mk (Kd.V_below (Kd.V_elderB (Kd.vU HO266.out) gb318 (Nat.le_of_eq hg.symm)) hb); have n2_ := Aside0.mk (Kd.R_below (Kd.rU HO270.out) hb); have n3_ := Aside0.mk (Kd.R_below (Kd.rU HO274.out) hb); have n4_ := Aside0.mk (Kd.R_below (Kd.rU HO278.out) hb); have n5_ := Aside0.mk (Kd.R_below (Kd.rU HO282.out) hb); have n6_ := Aside0.mk (Kd.R_below (Kd.rU HO286.out) hb); have n7_ := Aside0.mk (Kd.R_below (Kd.rU HO290.out) hb); have n8_ := Aside0.mk (Kd.R_below (Kd.rU HO294.out) hb); have n9_ := Aside0.mk (Kd.R_below (Kd.R_elderB (Kd.rU HO302.out) gb318 (Nat.le_of_eq hg.symm)) hb); have n10_ := Aside0.mk (Kd.R_below (Kd.R_elderB (Kd.rU HO314.out) gb318 (Nat.le_of_eq hg.symm)) hb); have n11_ := Aside0.mk (blk_below (bU BK254.out) hb); have n12_ := Aside0.mk (blk_below (bU BK259.out) hb); have n13_ := Aside0.mk (blk_below (bU BK306.out) hb); have n14_ := Aside0.mk (below_step (hU HB.out) hb); have n15_ := Aside0.mk (hbox); have n16_ := Aside0.mk ((by rw [hg]; exact (below_size (hU HB.out)) : w.heap.size ≤ gb318)); have n17_ := Aside0.mk ((by rw [hg]; exact (below_size (hU HB.out)) : w.heap.size ≤ gb318)); have n18_ := Aside0.mk ((by rw [hg]; exact Nat.ne_of_lt (blk_lt (bU BK254.out)) : gb254 ≠ gb318)); have n19_ := Aside0.mk ((by rw [hg]; exact Nat.ne_of_gt (blk_lt (bU BK254.out)) : gb318 ≠ gb254)); have n20_ := Aside0.mk ((by rw [hg]; exact Nat.ne_of_lt (blk_lt (bU BK259.out)) : gb259 ≠ gb318)); have n21_ := Aside0.mk ((by rw [hg]; exact Nat.ne_of_gt (blk_lt (bU BK259.out)) : gb318 ≠ gb259)); have n22_ := Aside0.mk ((by rw [hg]; exact Nat.ne_of_lt (blk_lt (bU BK306.out)) : gb306 ≠ gb318)); have n23_ := Aside0.mk ((by rw [hg]; exact Nat.ne_of_gt (blk_lt (bU BK306.out)) : gb318 ≠ gb306)); clear HO262; clear HO266; clear HO270; clear HO274; clear HO278; clear HO282; clear HO286; clear HO290; clear HO294; clear HO302; clear HO314; clear BK254; clear BK259; clear BK306; clear HB; have HO262 := n0_; have HO266 := n1_; have HO270 := n2_; have HO274 := n3_; have HO278 := n4_; have HO282 := n5_; have HO286 := n6_; have HO290 := n7_; have HO294 := n8_; have HO302 := n9_; have HO314 := n10_; have BK254 := n11_; have BK259 := n12_; have BK306 := n13_; have HB := n14_; have BK318 := n15_; have GW318 := n16_; have GE318 := n17_; have NB254_318 := n18_; have NB318_254 := n19_; have NB259_318 := n20_; have NB318_259 := n21_; have NB306_318 := n22_; have NB318_306 := n23_; clear n0_ n1_ n2_ n3_ n4_ n5_ n6_ n7_ n8_ n9_ n10_ n11_ n12_ n13_ n14_ n15_ n16_ n17_ n18_ n19_ n20_ n21_ n22_ n23_; clear hb hbox hg; have hnb104 := NB318_254.out; have hnc104 := NB254_318.out; have hnb105 := NB318_259.out; have hnc105 := NB259_318.out; have hnb106 := NB318_306.out; have hnc106 := NB306_318.out; have hcz107_0 := blk_cell BK318.out; have hfz107_0 := blk_frozen BK318.out))
                                have n0_ : Aside0 (Kd.V (Kd.int .u8) 5 ((w103.setCell ⟨gb318, 0, none⟩ (.int .i64 t315)).setCell ⟨gb318, 1, none⟩ (.int .i64 t316)) w.heap.size (fun k_ => some k_ ≠ (.slice Ao61 y268.length co61 : Value).ownBlock ∧ some k_ ≠ (.slice Ao65 y272.length co65 : Value).ownBlock ∧ some k_ ≠ (.slice Ao69 y276.length co69 : Value).ownBlock ∧ some k_ ≠ (.slice Ao73 y280.length co73 : Value).ownBlock ∧ some k_ ≠ (.slice Ao77 y284.length co77 : Value).ownBlock ∧ some k_ ≠ (.slice Ao81 y288.length co81 : Value).ownBlock ∧ some k_ ≠ (.slice Ao85 y292.length co85 : Value).ownBlock ∧ some k_ ≠ (.slice Ao91 y300.length co91 : Value).ownBlock ∧ some k_ ≠ (.slice Ao101 y312.length co101 : Value).ownBlock ∧ k_ ≠ gb254 ∧ k_ ≠ gb259 ∧ k_ ≠ gb306 ∧ k_ ≠ gb318) (.slice Ao60 t260.length co60) t260) := ⟨by (with_reducible repeat (first | apply Kd.V_alloc | apply Kd.V_drewN | apply Kd.V_drew)); exact Kd.V_mono (Kd.V_far (p := ⟨gb318, 1, none⟩) (Kd.V_far (p := ⟨gb318, 0, none⟩) (Kd.V_mono HO262.out (fun k_ hk => (⟨hk, hk.2⟩ : _ ∧ k_ ≠ gb318))) (fun _ hk => hk.2) (.int .i64 t315)) (fun _ hk => hk.2) (.int .i64 t316)) (fun _ hk => by first | exact ⟨hk.1.1.1.1.1.1.1.1.1.1.1.2, ⟨hk.1.1.1.1.1.1.1.1.1.1.2, ⟨hk.1.1.1.1.1.1.1.1.1.2, ⟨hk.1.1.1.1.1.1.1.1.2, ⟨hk.1.1.1.1.1.1.1.2, ⟨hk.1.1.1.1.1.1.2, ⟨hk.1.1.1.1.1.2, ⟨hk.1.1.1.1.2, ⟨hk.1.1.2, ⟨hk.1.1.1.1.1.1.1.1.1.1.1.1.1, ⟨hk.1.1.1.1.1.1.1.1.1.1.1.1.2, ⟨hk.1.1.1.2, hk.1.2⟩⟩⟩⟩⟩⟩⟩⟩⟩⟩⟩⟩ | (revert hk; simp only [and_imp]; intros; (repeat' apply And.intro) <;> assumption))⟩
                                have n1_ : Aside0 (Kd.V (Kd.int .u8) 5 ((w103.setCell ⟨gb318, 0, none⟩ (.int .i64 t315)).setCell ⟨gb318, 1, none⟩ (.int .i64 t316)) w.heap.size (fun k_ => some k_ ≠ (.slice Ao61 y268.length co61 : Value).ownBlock ∧ some k_ ≠ (.slice Ao65 y272.length co65 : Value).ownBlock ∧ some k_ ≠ (.slice Ao69 y276.length co69 : Value).ownBlock ∧ some k_ ≠ (.slice Ao73 y280.length co73 : Value).ownBlock ∧ some k_ ≠ (.slice Ao77 y284.length co77 : Value).ownBlock ∧ some k_ ≠ (.slice Ao81 y288.length co81 : Value).ownBlock ∧ some k_ ≠ (.slice Ao85 y292.length co85 : Value).ownBlock ∧ some k_ ≠ (.slice Ao91 y300.length co91 : Value).ownBlock ∧ some k_ ≠ (.slice Ao101 y312.length co101 : Value).ownBlock ∧ k_ ≠ gb254 ∧ k_ ≠ gb259 ∧ k_ ≠ gb306 ∧ k_ ≠ gb318) (.slice Ao64 t264.length co64) t264) := ⟨by (with_reducible repeat (first | apply Kd.V_alloc | apply Kd.V_drewN | apply Kd.V_drew)); exact Kd.V_mono (Kd.V_far (p := ⟨gb318, 1, none⟩) (Kd.V_far (p := ⟨gb318, 0, none⟩) (Kd.V_mono HO266.out (fun k_ hk => (⟨hk, hk.2⟩ : _ ∧ k_ ≠ gb318))) (fun _ hk => hk.2) (.int .i64 t315)) (fun _ hk => hk.2) (.int .i64 t316)) (fun _ hk => by first | exact ⟨hk.1.1.1.1.1.1.1.1.1.1.1.2, ⟨hk.1.1.1.1.1.1.1.1.1.1.2, ⟨hk.1.1.1.1.1.1.1.1.1.2, ⟨hk.1.1.1.1.1.1.1.1.2, ⟨hk.1.1.1.1.1.1.1.2, ⟨hk.1.1.1.1.1.1.2, ⟨hk.1.1.1.1.1.2, ⟨hk.1.1.1.1.2, ⟨hk.1.1.2, ⟨hk.1.1.1.1.1.1.1.1.1.1.1.1.1, ⟨hk.1.1.1.1.1.1.1.1.1.1.1.1.2, ⟨hk.1.1.1.2, hk.1.2⟩⟩⟩⟩⟩⟩⟩⟩⟩⟩⟩⟩ | (revert hk; simp only [and_imp]; intros; (repeat' apply And.intro) <;> assumption))⟩
                                have n2_ : Aside0 (Kd.R (Kd.int .u8) 5 ((w103.setCell ⟨gb318, 0, none⟩ (.int .i64 t315)).setCell ⟨gb318, 1, none⟩ (.int .i64 t316)) w.heap.size (fun k_ => some k_ ≠ (.slice Ao65 y272.length co65 : Value).ownBlock ∧ some k_ ≠ (.slice Ao69 y276.length co69 : Value).ownBlock ∧ some k_ ≠ (.slice Ao73 y280.length co73 : Value).ownBlock ∧ some k_ ≠ (.slice Ao77 y284.length co77 : Value).ownBlock ∧ some k_ ≠ (.slice Ao81 y288.length co81 : Value).ownBlock ∧ some k_ ≠ (.slice Ao85 y292.length co85 : Value).ownBlock) (.slice Ao61 y268.length co61) y268) := ⟨by (with_reducible repeat (first | apply Kd.R_alloc | apply Kd.R_drewN | apply Kd.R_drew)); exact Kd.R_mono (Kd.R_far (p := ⟨gb318, 1, none⟩) (Kd.R_far (p := ⟨gb318, 0, none⟩) (Kd.R_types HO270.out BK318.out (by decide)) (fun _ hk => hk.2) (.int .i64 t315)) (fun _ hk => hk.2) (.int .i64 t316)) (fun _ hk => by first | exact ⟨hk.1.1.1.1.1.1.2, ⟨hk.1.1.1.1.1.2, ⟨hk.1.1.1.1.2, ⟨hk.1.1.1.2, ⟨hk.1.1.2, hk.1.2⟩⟩⟩⟩⟩ | (revert hk; simp only [and_imp]; intros; (repeat' apply And.intro) <;> assumption))⟩
                                have n3_ : Aside0 (Kd.R (Kd.int .u8) 5 ((w103.setCell ⟨gb318, 0, none⟩ (.int .i64 t315)).setCell ⟨gb318, 1, none⟩ (.int .i64 t316)) w.heap.size (fun k_ => some k_ ≠ (.slice Ao61 y268.length co61 : Value).ownBlock ∧ some k_ ≠ (.slice Ao69 y276.length co69 : Value).ownBlock ∧ some k_ ≠ (.slice Ao73 y280.length co73 : Value).ownBlock ∧ some k_ ≠ (.slice Ao77 y284.length co77 : Value).ownBlock ∧ some k_ ≠ (.slice Ao81 y288.length co81 : Value).ownBlock ∧ some k_ ≠ (.slice Ao85 y292.length co85 : Value).ownBlock) (.slice Ao65 y272.length co65) y272) := ⟨by (with_reducible repeat (first | apply Kd.R_alloc | apply Kd.R_drewN | apply Kd.R_drew)); exact Kd.R_mono (Kd.R_far (p := ⟨gb318, 1, none⟩) (Kd.R_far (p := ⟨gb318, 0, none⟩) (Kd.R_types HO274.out BK318.out (by decide)) (fun _ hk => hk.2) (.int .i64 t315)) (fun _ hk => hk.2) (.int .i64 t316)) (fun _ hk => by first | exact ⟨hk.1.1.1.1.1.1.2, ⟨hk.1.1.1.1.1.2, ⟨hk.1.1.1.1.2, ⟨hk.1.1.1.2, ⟨hk.1.1.2, hk.1.2⟩⟩⟩⟩⟩ | (revert hk; simp only [and_imp]; intros; (repeat' apply And.intro) <;> assumption))⟩
                                have n4_ : Aside0 (Kd.R (Kd.int .u8) 5 ((w103.setCell ⟨gb318, 0, none⟩ (.int .i64 t315)).setCell ⟨gb318, 1, none⟩ (.int .i64 t316)) w.heap.size (fun k_ => some k_ ≠ (.slice Ao61 y268.length co61 : Value).ownBlock ∧ some k_ ≠ (.slice Ao65 y272.length co65 : Value).ownBlock ∧ some k_ ≠ (.slice Ao73 y280.length co73 : Value).ownBlock ∧ some k_ ≠ (.slice Ao77 y284.length co77 : Value).ownBlock ∧ some k_ ≠ (.slice Ao81 y288.length co81 : Value).ownBlock ∧ some k_ ≠ (.slice Ao85 y292.length co85 : Value).ownBlock) (.slice Ao69 y276.length co69) y276) := ⟨by (with_reducible repeat (first | apply Kd.R_alloc | apply Kd.R_drewN | apply Kd.R_drew)); exact Kd.R_mono (Kd.R_far (p := ⟨gb318, 1, none⟩) (Kd.R_far (p := ⟨gb318, 0, none⟩) (Kd.R_types HO278.out BK318.out (by decide)) (fun _ hk => hk.2) (.int .i64 t315)) (fun _ hk => hk.2) (.int .i64 t316)) (fun _ hk => by first | exact ⟨hk.1.1.1.1.1.1.2, ⟨hk.1.1.1.1.1.2, ⟨hk.1.1.1.1.2, ⟨hk.1.1.1.2, ⟨hk.1.1.2, hk.1.2⟩⟩⟩⟩⟩ | (revert hk; simp only [and_imp]; intros; (repeat' apply And.intro) <;> assumption))⟩
                                have n5_ : Aside0 (Kd.R (Kd.int .u8) 5 ((w103.setCell ⟨gb318, 0, none⟩ (.int .i64 t315)).setCell ⟨gb318, 1, none⟩ (.int .i64 t316)) w.heap.size (fun k_ => some k_ ≠ (.slice Ao61 y268.length co61 : Value).ownBlock ∧ some k_ ≠ (.slice Ao65 y272.length co65 : Value).ownBlock ∧ some k_ ≠ (.slice Ao69 y276.length co69 : Value).ownBlock ∧ some k_ ≠ (.slice Ao77 y284.length co77 : Value).ownBlock ∧ some k_ ≠ (.slice Ao81 y288.length co81 : Value).ownBlock ∧ some k_ ≠ (.slice Ao85 y292.length co85 : Value).ownBlock) (.slice Ao73 y280.length co73) y280) := ⟨by (with_reducible repeat (first | apply Kd.R_alloc | apply Kd.R_drewN | apply Kd.R_drew)); exact Kd.R_mono (Kd.R_far (p := ⟨gb318, 1, none⟩) (Kd.R_far (p := ⟨gb318, 0, none⟩) (Kd.R_types HO282.out BK318.out (by decide)) (fun _ hk => hk.2) (.int .i64 t315)) (fun _ hk => hk.2) (.int .i64 t316)) (fun _ hk => by first | exact ⟨hk.1.1.1.1.1.1.2, ⟨hk.1.1.1.1.1.2, ⟨hk.1.1.1.1.2, ⟨hk.1.1.1.2, ⟨hk.1.1.2, hk.1.2⟩⟩⟩⟩⟩ | (revert hk; simp only [and_imp]; intros; (repeat' apply And.intro) <;> assumption))⟩
                                have n6_ : Aside0 (Kd.R (Kd.int .u8) 5 ((w103.setCell ⟨gb318, 0, none⟩ (.int .i64 t315)).setCell ⟨gb318, 1, none⟩ (.int .i64 t316)) w.heap.size (fun k_ => some k_ ≠ (.slice Ao61 y268.length co61 : Value).ownBlock ∧ some k_ ≠ (.slice Ao65 y272.length co65 : Value).ownBlock ∧ some k_ ≠ (.slice Ao69 y276.length co69 : Value).ownBlock ∧ some k_ ≠ (.slice Ao73 y280.length co73 : Value).ownBlock ∧ some k_ ≠ (.slice Ao81 y288.length co81 : Value).ownBlock ∧ some k_ ≠ (.slice Ao85 y292.length co85 : Value).ownBlock) (.slice Ao77 y284.length co77) y284) := ⟨by (with_reducible repeat (first | apply Kd.R_alloc | apply Kd.R_drewN | apply Kd.R_drew)); exact Kd.R_mono (Kd.R_far (p := ⟨gb318, 1, none⟩) (Kd.R_far (p := ⟨gb318, 0, none⟩) (Kd.R_types HO286.out BK318.out (by decide)) (fun _ hk => hk.2) (.int .i64 t315)) (fun _ hk => hk.2) (.int .i64 t316)) (fun _ hk => by first | exact ⟨hk.1.1.1.1.1.1.2, ⟨hk.1.1.1.1.1.2, ⟨hk.1.1.1.1.2, ⟨hk.1.1.1.2, ⟨hk.1.1.2, hk.1.2⟩⟩⟩⟩⟩ | (revert hk; simp only [and_imp]; intros; (repeat' apply And.intro) <;> assumption))⟩
                                have n7_ : Aside0 (Kd.R (Kd.int .u8) 5 ((w103.setCell ⟨gb318, 0, none⟩ (.int .i64 t315)).setCell ⟨gb318, 1, none⟩ (.int .i64 t316)) w.heap.size (fun k_ => some k_ ≠ (.slice Ao61 y268.length co61 : Value).ownBlock ∧ some k_ ≠ (.slice Ao65 y272.length co65 : Value).ownBlock ∧ some k_ ≠ (.slice Ao69 y276.length co69 : Value).ownBlock ∧ some k_ ≠ (.slice Ao73 y280.length co73 : Value).ownBlock ∧ some k_ ≠ (.slice Ao77 y284.length co77 : Value).ownBlock ∧ some k_ ≠ (.slice Ao85 y292.length co85 : Value).ownBlock) (.slice Ao81 y288.length co81) y288) := ⟨by (with_reducible repeat (first | apply Kd.R_alloc | apply Kd.R_drewN | apply Kd.R_drew)); exact Kd.R_mono (Kd.R_far (p := ⟨gb318, 1, none⟩) (Kd.R_far (p := ⟨gb318, 0, none⟩) (Kd.R_types HO290.out BK318.out (by decide)) (fun _ hk => hk.2) (.int .i64 t315)) (fun _ hk => hk.2) (.int .i64 t316)) (fun _ hk => by first | exact ⟨hk.1.1.1.1.1.1.2, ⟨hk.1.1.1.1.1.2, ⟨hk.1.1.1.1.2, ⟨hk.1.1.1.2, ⟨hk.1.1.2, hk.1.2⟩⟩⟩⟩⟩ | (revert hk; simp only [and_imp]; intros; (repeat' apply And.intro) <;> assumption))⟩
                                have n8_ : Aside0 (Kd.R (Kd.int .u8) 5 ((w103.setCell ⟨gb318, 0, none⟩ (.int .i64 t315)).setCell ⟨gb318, 1, none⟩ (.int .i64 t316)) w.heap.size (fun k_ => some k_ ≠ (.slice Ao61 y268.length co61 : Value).ownBlock ∧ some k_ ≠ (.slice Ao65 y272.length co65 : Value).ownBlock ∧ some k_ ≠ (.slice Ao69 y276.length co69 : Value).ownBlock ∧ some k_ ≠ (.slice Ao73 y280.length co73 : Value).ownBlock ∧ some k_ ≠ (.slice Ao77 y284.length co77 : Value).ownBlock ∧ some k_ ≠ (.slice Ao81 y288.length co81 : Value).ownBlock) (.slice Ao85 y292.length co85) y292) := ⟨by (with_reducible repeat (first | apply Kd.R_alloc | apply Kd.R_drewN | apply Kd.R_drew)); exact Kd.R_mono (Kd.R_far (p := ⟨gb318, 1, none⟩) (Kd.R_far (p := ⟨gb318, 0, none⟩) (Kd.R_types HO294.out BK318.out (by decide)) (fun _ hk => hk.2) (.int .i64 t315)) (fun _ hk => hk.2) (.int .i64 t316)) (fun _ hk => by first | exact ⟨hk.1.1.1.1.1.1.2, ⟨hk.1.1.1.1.1.2, ⟨hk.1.1.1.1.2, ⟨hk.1.1.1.2, ⟨hk.1.1.2, hk.1.2⟩⟩⟩⟩⟩ | (revert hk; simp only [and_imp]; intros; (repeat' apply And.intro) <;> assumption))⟩
                                have n9_ : Aside0 (Kd.R k23 23 ((w103.setCell ⟨gb318, 0, none⟩ (.int .i64 t315)).setCell ⟨gb318, 1, none⟩ (.int .i64 t316)) w.heap.size (fun k_ => some k_ ≠ (.slice Ao101 y312.length co101 : Value).ownBlock ∧ k_ ≠ gb306 ∧ k_ ≠ gb318) (.slice Ao91 y300.length co91) y300) := ⟨by (with_reducible repeat (first | apply Kd.R_alloc | apply Kd.R_drewN | apply Kd.R_drew)); exact Kd.R_mono (Kd.R_far (p := ⟨gb318, 1, none⟩) (Kd.R_far (p := ⟨gb318, 0, none⟩) (Kd.R_mono HO302.out (fun k_ hk => (⟨hk, hk.2⟩ : _ ∧ k_ ≠ gb318))) (fun _ hk => hk.2) (.int .i64 t315)) (fun _ hk => hk.2) (.int .i64 t316)) (fun _ hk => by first | exact ⟨hk.1.1.2, ⟨hk.1.1.1.2, hk.1.2⟩⟩ | (revert hk; simp only [and_imp]; intros; (repeat' apply And.intro) <;> assumption))⟩
                                have n10_ : Aside0 (Kd.R k23 23 ((w103.setCell ⟨gb318, 0, none⟩ (.int .i64 t315)).setCell ⟨gb318, 1, none⟩ (.int .i64 t316)) w.heap.size (fun k_ => some k_ ≠ (.slice Ao91 y300.length co91 : Value).ownBlock ∧ k_ ≠ gb306 ∧ k_ ≠ gb318) (.slice Ao101 y312.length co101) y312) := ⟨by (with_reducible repeat (first | apply Kd.R_alloc | apply Kd.R_drewN | apply Kd.R_drew)); exact Kd.R_mono (Kd.R_far (p := ⟨gb318, 1, none⟩) (Kd.R_far (p := ⟨gb318, 0, none⟩) (Kd.R_mono HO314.out (fun k_ hk => (⟨hk, hk.2⟩ : _ ∧ k_ ≠ gb318))) (fun _ hk => hk.2) (.int .i64 t315)) (fun _ hk => hk.2) (.int .i64 t316)) (fun _ hk => by first | exact ⟨hk.1.1.1.2, ⟨hk.1.1.2, hk.1.2⟩⟩ | (revert hk; simp only [and_imp]; intros; (repeat' apply And.intro) <;> assumption))⟩
                                have n11_ : Aside0 (((w103.setCell ⟨gb318, 0, none⟩ (.int .i64 t315)).setCell ⟨gb318, 1, none⟩ (.int .i64 t316)).heap[gb254]? = some (.cells #[.int .i64 t250, .int .i64 t251, .int .i64 2, .int .i64 t252, .int .i64 t253, .bool true, .int .i64 0, .int .i64 0, .int .i64 0, .int .i64 0, .int .i64 0, .int .i64 0, .int .i64 0] 27 (0, 0))) := ⟨by (with_reducible repeat (first | refine blk_drewN ?_ _ | refine blk_drew ?_ | refine blk_alloc ?_ _)); refine blk_far ?_ NB254_318.out _; (with_reducible repeat (first | refine blk_drewN ?_ _ | refine blk_drew ?_ | refine blk_alloc ?_ _)); refine blk_far ?_ NB254_318.out _; (with_reducible repeat (first | refine blk_drewN ?_ _ | refine blk_drew ?_ | refine blk_alloc ?_ _)); exact BK254.out⟩
                                have n12_ : Aside0 (((w103.setCell ⟨gb318, 0, none⟩ (.int .i64 t315)).setCell ⟨gb318, 1, none⟩ (.int .i64 t316)).heap[gb259]? = some (.cells #[.int .i64 t255, .int .i64 t256, .int .i64 0, .int .i64 t257, .int .i64 t258, .bool false, .int .i64 2, .int .i64 0, .int .i64 0, .int .i64 8, .int .i64 0, .int .i64 0, .int .i64 0] 27 (0, 0))) := ⟨by (with_reducible repeat (first | refine blk_drewN ?_ _ | refine blk_drew ?_ | refine blk_alloc ?_ _)); refine blk_far ?_ NB259_318.out _; (with_reducible repeat (first | refine blk_drewN ?_ _ | refine blk_drew ?_ | refine blk_alloc ?_ _)); refine blk_far ?_ NB259_318.out _; (with_reducible repeat (first | refine blk_drewN ?_ _ | refine blk_drew ?_ | refine blk_alloc ?_ _)); exact BK259.out⟩
                                have n13_ : Aside0 (((w103.setCell ⟨gb318, 0, none⟩ (.int .i64 t315)).setCell ⟨gb318, 1, none⟩ (.int .i64 t316)).heap[gb306]? = some (.cells #[.int .i64 t303, .int .i64 t304] 23 (0, 0))) := ⟨by (with_reducible repeat (first | refine blk_drewN ?_ _ | refine blk_drew ?_ | refine blk_alloc ?_ _)); refine blk_far ?_ NB306_318.out _; (with_reducible repeat (first | refine blk_drewN ?_ _ | refine blk_drew ?_ | refine blk_alloc ?_ _)); refine blk_far ?_ NB306_318.out _; (with_reducible repeat (first | refine blk_drewN ?_ _ | refine blk_drew ?_ | refine blk_alloc ?_ _)); exact BK306.out⟩
                                have n14_ : Aside0 (((w103.setCell ⟨gb318, 0, none⟩ (.int .i64 t315)).setCell ⟨gb318, 1, none⟩ (.int .i64 t316)).heap[gb318]? = some (.cells #[.int .i64 t315, .int .i64 t316] 23 (0, 0))) := ⟨by (with_reducible repeat (first | refine blk_drewN ?_ _ | refine blk_drew ?_ | refine blk_alloc ?_ _)); refine blk_put (cs := #[.int .i64 t315, .int .i64 0]) ?_ 1 _ rfl; (with_reducible repeat (first | refine blk_drewN ?_ _ | refine blk_drew ?_ | refine blk_alloc ?_ _)); refine blk_put (cs := #[.int .i64 0, .int .i64 0]) ?_ 0 _ rfl; (with_reducible repeat (first | refine blk_drewN ?_ _ | refine blk_drew ?_ | refine blk_alloc ?_ _)); exact BK318.out⟩
                                have n15_ : Aside0 (Below w.heap.size w ((w103.setCell ⟨gb318, 0, none⟩ (.int .i64 t315)).setCell ⟨gb318, 1, none⟩ (.int .i64 t316))) := ⟨hU HB.out⟩
                                (try clear HO262)
                                (try clear HO266)
                                (try clear HO270)
                                (try clear HO274)
                                (try clear HO278)
                                (try clear HO282)
                                (try clear HO286)
                                (try clear HO290)
                                (try clear HO294)
                                (try clear HO302)
                                (try clear HO314)
                                (try clear BK254)
                                (try clear BK259)
                                (try clear BK306)
                                (try clear BK318)
                                (try clear HB)
                                generalize ((w103.setCell ⟨gb318, 0, none⟩ (.int .i64 t315)).setCell ⟨gb318, 1, none⟩ (.int .i64 t316)) = w108 at n0_ n1_ n2_ n3_ n4_ n5_ n6_ n7_ n8_ n9_ n10_ n11_ n12_ n13_ n14_ n15_ ⊢
                                have HO262 := n0_
                                have HO266 := n1_
                                have HO270 := n2_
                                have HO274 := n3_
                                have HO278 := n4_
                                have HO282 := n5_
                                have HO286 := n6_
                                have HO290 := n7_
                                have HO294 := n8_
                                have HO302 := n9_
                                have HO314 := n10_
                                have BK254 := n11_
                                have BK259 := n12_
                                have BK306 := n13_
                                have BK318 := n14_
                                have HB := n15_
                                clear n0_ n1_ n2_ n3_ n4_ n5_ n6_ n7_ n8_ n9_ n10_ n11_ n12_ n13_ n14_ n15_
                                have n0_ := Aside0.mk (Kd.V_drew HO262.out)
                                have n1_ := Aside0.mk (Kd.V_drew HO266.out)
                                have n2_ := Aside0.mk (Kd.R_drew HO270.out)
                                have n3_ := Aside0.mk (Kd.R_drew HO274.out)
                                have n4_ := Aside0.mk (Kd.R_drew HO278.out)
                                have n5_ := Aside0.mk (Kd.R_drew HO282.out)
                                have n6_ := Aside0.mk (Kd.R_drew HO286.out)
                                have n7_ := Aside0.mk (Kd.R_drew HO290.out)
                                have n8_ := Aside0.mk (Kd.R_drew HO294.out)
                                have n9_ := Aside0.mk (Kd.R_drew HO302.out)
                                have n10_ := Aside0.mk (Kd.R_drew HO314.out)
                                have n11_ := Aside0.mk (blk_drew BK254.out)
                                have n12_ := Aside0.mk (blk_drew BK259.out)
                                have n13_ := Aside0.mk (blk_drew BK306.out)
                                have n14_ := Aside0.mk (blk_drew BK318.out)
                                have n15_ := Aside0.mk (below_drew1 HB.out)
                                clear HO262
                                clear HO266
                                clear HO270
                                clear HO274
                                clear HO278
                                clear HO282
                                clear HO286
                                clear HO290
                                clear HO294
                                clear HO302
                                clear HO314
                                clear BK254
                                clear BK259
                                clear BK306
                                clear BK318
                                clear HB
                                have HO262 := n0_
                                have HO266 := n1_
                                have HO270 := n2_
                                have HO274 := n3_
                                have HO278 := n4_
                                have HO282 := n5_
                                have HO286 := n6_
                                have HO290 := n7_
                                have HO294 := n8_
                                have HO302 := n9_
                                have HO314 := n10_
                                have BK254 := n11_
                                have BK259 := n12_
                                have BK306 := n13_
                                have BK318 := n14_
                                have HB := n15_
                                clear n0_ n1_ n2_ n3_ n4_ n5_ n6_ n7_ n8_ n9_ n10_ n11_ n12_ n13_ n14_ n15_
                                refine start_ (n := 32) (S := fun w' => w'.cell? ⟨gb306, 0, none⟩ = some (.int .i64 t303) ∧ w'.cell? ⟨gb306, 1, none⟩ = some (.int .i64 t304)) (ds := []) #[false, false, false, false, false, false, false, false, false, false, false, false, false, false, false, false, false, false, false, false, false, false, false, false, false, false, false, false, false, false, false, false] (by kernel_rfl) rfl rfl ⟨(blk_cell BK306.out 0).trans rfl, (blk_cell BK306.out 1).trans rfl⟩ (fun hHeld => ?_); refine with_tabW dancestudiolaw56_awake.tab12 dancestudiolaw56_awake.bits12 (fun HT_ HW_ => ?_)
                                generalize w108.drew = w109 at HO262 HO266 HO270 HO274 HO278 HO282 HO286 HO290 HO294 HO302 HO314 BK254 BK259 BK306 BK318 HB hHeld ⊢
                                refine take_ (i := 0) (N := some 90) (v := ?_) (a' := ?_) #[true, false, false, false, false, false, false, false, false, false, false, false, false, false, false, false, false, false, false, false, false, false, false, false, false, false, false, false, false, false, false, false] rfl rfl (take_ofW HT_.out HW_.out (by kernel_rfl)) (fun _ _ _ h => h) (Or.inl ⟨by rfl, ?_⟩) hHeld ?_ ?_
                                rotate_left
                                · rintro w' ⟨s0, s1⟩
                                  go_simp
                                  with_reducible rfl
                                rotate_left
                                · simp only [Act.put, List.setIfInBounds_toArray, List.set_cons_zero, List.set_cons_succ, i64_w, i32_w]
                                  rfl
                                refine one_ (i := 1) (N := some 91) #[true, true, false, false, false, false, false, false, false, false, false, false, false, false, false, false, false, false, false, false, false, false, false, false, false, false, false, false, false, false, false, false] rfl rfl (one_of HT_.out (by kernel_rfl)) (by decide) (fun K hK => ?_)
                                refine goes_ Try.func30 (by kernel_rfl) rfl #[.int .i64 6, .int .i64 2] (by rfl) rfl rfl (by (try simp only [List.map_toArray, List.map_cons, List.map_nil]); first | done | rfl | (simp only [List.length_drop, List.length_take]; rfl)) ?_
                                with_reducible refine (dancestudiolaw56_stamp.calls 6 2 t319 t320 _ A29.out).mono ?_
                                rintro e w110 ⟨rfl, hb⟩
                                refine ⟨_, rfl, ?_⟩
                                have n0_ := Aside0.mk (Kd.V_below (Kd.vU HO262.out) hb)
                                have n1_ := Aside0.mk (Kd.V_below (Kd.vU HO266.out) hb)
                                have n2_ := Aside0.mk (Kd.R_below (Kd.rU HO270.out) hb)
                                have n3_ := Aside0.mk (Kd.R_below (Kd.rU HO274.out) hb)
                                have n4_ := Aside0.mk (Kd.R_below (Kd.rU HO278.out) hb)
                                have n5_ := Aside0.mk (Kd.R_below (Kd.rU HO282.out) hb)
                                have n6_ := Aside0.mk (Kd.R_below (Kd.rU HO286.out) hb)
                                have n7_ := Aside0.mk (Kd.R_below (Kd.rU HO290.out) hb)
                                have n8_ := Aside0.mk (Kd.R_below (Kd.rU HO294.out) hb)
                                have n9_ := Aside0.mk (Kd.R_below (Kd.rU HO302.out) hb)
                                have n10_ := Aside0.mk (Kd.R_below (Kd.rU HO314.out) hb)
                                have n11_ := Aside0.mk (blk_below (bU BK254.out) hb)
                                have n12_ := Aside0.mk (blk_below (bU BK259.out) hb)
                                have n13_ := Aside0.mk (blk_below (bU BK306.out) hb)
                                have n14_ := Aside0.mk (blk_below (bU BK318.out) hb)
                                have n15_ := Aside0.mk (below_step (hU HB.out) hb)
                                clear HO262
                                clear HO266
                                clear HO270
                                clear HO274
                                clear HO278
                                clear HO282
                                clear HO286
                                clear HO290
                                clear HO294
                                clear HO302
                                clear HO314
                                clear BK254
                                clear BK259
                                clear BK306
                                clear BK318
                                clear HB
                                have HO262 := n0_
                                have HO266 := n1_
                                have HO270 := n2_
                                have HO274 := n3_
                                have HO278 := n4_
                                have HO282 := n5_
                                have HO286 := n6_
                                have HO290 := n7_
                                have HO294 := n8_
                                have HO302 := n9_
                                have HO314 := n10_
                                have BK254 := n11_
                                have BK259 := n12_
                                have BK306 := n13_
                                have BK318 := n14_
                                have HB := n15_
                                clear n0_ n1_ n2_ n3_ n4_ n5_ n6_ n7_ n8_ n9_ n10_ n11_ n12_ n13_ n14_ n15_
                                (try clear hb)
                                (try clear hb2)
                                (try clear hk)
                                (try clear hi)
                                refine hK.out _ _ ⟨(blk_cell BK306.out 0).trans rfl, (blk_cell BK306.out 1).trans rfl⟩ (fun hHeld => ?_)
                                clear hK K
                                refine norm_ (a' := ?_) ?_ ?_
                                rotate_left
                                · show Act.put _ (some 91) _ = _
                                  simp only [Act.put, List.setIfInBounds_toArray, List.set_cons_zero, List.set_cons_succ, i64_w, i32_w]
                                  rfl
                                refine pure_ (i := 2) (N := some 92) (v := ?_) (a' := ?_) #[true, true, true, false, false, false, false, false, false, false, false, false, false, false, false, false, false, false, false, false, false, false, false, false, false, false, false, false, false, false, false, false] rfl rfl (any_of HT_.out (by kernel_rfl)) (fun _ _ _ h => h) (Or.inl ⟨by rfl, ?_⟩) ?_ ?_
                                rotate_left
                                · intro w'
                                  go_simp
                                  with_reducible rfl
                                rotate_left
                                · simp only [Act.put, List.setIfInBounds_toArray, List.set_cons_zero, List.set_cons_succ, i64_w, i32_w]
                                  rfl
                                refine pure_ (i := 3) (N := some 93) (v := ?_) (a' := ?_) #[true, true, true, true, false, false, false, false, false, false, false, false, false, false, false, false, false, false, false, false, false, false, false, false, false, false, false, false, false, false, false, false] rfl rfl (any_of HT_.out (by kernel_rfl)) (fun _ _ _ h => h) (Or.inl ⟨by rfl, ?_⟩) ?_ ?_
                                rotate_left
                                · intro w'
                                  go_simp
                                  with_reducible rfl
                                rotate_left
                                · simp only [Act.put, List.setIfInBounds_toArray, List.set_cons_zero, List.set_cons_succ, i64_w, i32_w]
                                  rfl
                                refine pure_ (i := 4) (N := some 94) (v := ?_) (a' := ?_) #[true, true, true, true, true, false, false, false, false, false, false, false, false, false, false, false, false, false, false, false, false, false, false, false, false, false, false, false, false, false, false, false] rfl rfl (any_of HT_.out (by kernel_rfl)) (fun _ _ _ h => h) (Or.inl ⟨by rfl, ?_⟩) ?_ ?_
                                rotate_left
                                · intro w'
                                  go_simp
                                  with_reducible rfl
                                rotate_left
                                · simp only [Act.put, List.setIfInBounds_toArray, List.set_cons_zero, List.set_cons_succ, i64_w, i32_w]
                                  rfl
                                refine pure_ (i := 5) (N := some 95) (v := ?_) (a' := ?_) #[true, true, true, true, true, true, false, false, false, false, false, false, false, false, false, false, false, false, false, false, false, false, false, false, false, false, false, false, false, false, false, false] rfl rfl (any_of HT_.out (by kernel_rfl)) (fun _ _ _ h => h) (Or.inl ⟨by rfl, ?_⟩) ?_ ?_
                                rotate_left
                                · intro w'
                                  go_simp
                                  with_reducible rfl
                                rotate_left
                                · simp only [Act.put, List.setIfInBounds_toArray, List.set_cons_zero, List.set_cons_succ, i64_w, i32_w]
                                  rfl
                                refine pure_ (i := 6) (N := some 96) (v := ?_) (a' := ?_) #[true, true, true, true, true, true, true, false, false, false, false, false, false, false, false, false, false, false, false, false, false, false, false, false, false, false, false, false, false, false, false, false] rfl rfl (any_of HT_.out (by kernel_rfl)) (fun _ _ _ h => h) (Or.inl ⟨by rfl, ?_⟩) ?_ ?_
                                rotate_left
                                · intro w'
                                  go_simp
                                  with_reducible rfl
                                rotate_left
                                · simp only [Act.put, List.setIfInBounds_toArray, List.set_cons_zero, List.set_cons_succ, i64_w, i32_w]
                                  rfl
                                refine pure_ (i := 7) (N := some 97) (v := ?_) (a' := ?_) #[true, true, true, true, true, true, true, true, false, false, false, false, false, false, false, false, false, false, false, false, false, false, false, false, false, false, false, false, false, false, false, false] rfl rfl (any_of HT_.out (by kernel_rfl)) (fun _ _ _ h => h) (Or.inl ⟨by rfl, ?_⟩) ?_ ?_
                                rotate_left
                                · intro w'
                                  go_simp
                                  with_reducible rfl
                                rotate_left
                                · simp only [Act.put, List.setIfInBounds_toArray, List.set_cons_zero, List.set_cons_succ, i64_w, i32_w]
                                  rfl
                                refine pure_ (i := 8) (N := some 98) (v := ?_) (a' := ?_) #[true, true, true, true, true, true, true, true, true, false, false, false, false, false, false, false, false, false, false, false, false, false, false, false, false, false, false, false, false, false, false, false] rfl rfl (any_of HT_.out (by kernel_rfl)) (fun _ _ _ h => h) (Or.inl ⟨by rfl, ?_⟩) ?_ ?_
                                rotate_left
                                · intro w'
                                  go_simp
                                  with_reducible rfl
                                rotate_left
                                · simp only [Act.put, List.setIfInBounds_toArray, List.set_cons_zero, List.set_cons_succ, i64_w, i32_w]
                                  rfl
                                refine pure_ (i := 9) (N := some 99) (v := ?_) (a' := ?_) #[true, true, true, true, true, true, true, true, true, true, false, false, false, false, false, false, false, false, false, false, false, false, false, false, false, false, false, false, false, false, false, false] rfl rfl (any_of HT_.out (by kernel_rfl)) (fun _ _ _ h => h) (Or.inl ⟨by rfl, ?_⟩) ?_ ?_
                                rotate_left
                                · intro w'
                                  go_simp
                                  with_reducible rfl
                                rotate_left
                                · simp only [Act.put, List.setIfInBounds_toArray, List.set_cons_zero, List.set_cons_succ, i64_w, i32_w]
                                  rfl
                                refine pure_ (i := 10) (N := some 100) (v := ?_) (a' := ?_) #[true, true, true, true, true, true, true, true, true, true, true, false, false, false, false, false, false, false, false, false, false, false, false, false, false, false, false, false, false, false, false, false] rfl rfl (any_of HT_.out (by kernel_rfl)) (fun _ _ _ h => h) (Or.inl ⟨by rfl, ?_⟩) ?_ ?_
                                rotate_left
                                · intro w'
                                  go_simp
                                  with_reducible rfl
                                rotate_left
                                · simp only [Act.put, List.setIfInBounds_toArray, List.set_cons_zero, List.set_cons_succ, i64_w, i32_w]
                                  rfl
                                refine pure_ (i := 11) (N := some 101) (v := ?_) (a' := ?_) #[true, true, true, true, true, true, true, true, true, true, true, true, false, false, false, false, false, false, false, false, false, false, false, false, false, false, false, false, false, false, false, false] rfl rfl (any_of HT_.out (by kernel_rfl)) (fun _ _ _ h => h) (Or.inl ⟨by rfl, ?_⟩) ?_ ?_
                                rotate_left
                                · intro w'
                                  go_simp
                                  with_reducible rfl
                                rotate_left
                                · simp only [Act.put, List.setIfInBounds_toArray, List.set_cons_zero, List.set_cons_succ, i64_w, i32_w]
                                  rfl
                                refine pure_ (i := 12) (N := some 102) (v := ?_) (a' := ?_) #[true, true, true, true, true, true, true, true, true, true, true, true, true, false, false, false, false, false, false, false, false, false, false, false, false, false, false, false, false, false, false, false] rfl rfl (any_of HT_.out (by kernel_rfl)) (fun _ _ _ h => h) (Or.inl ⟨by rfl, ?_⟩) ?_ ?_
                                rotate_left
                                · intro w'
                                  go_simp
                                  with_reducible rfl
                                rotate_left
                                · simp only [Act.put, List.setIfInBounds_toArray, List.set_cons_zero, List.set_cons_succ, i64_w, i32_w]
                                  rfl
                                refine pure_ (i := 13) (N := some 103) (v := ?_) (a' := ?_) #[true, true, true, true, true, true, true, true, true, true, true, true, true, true, false, false, false, false, false, false, false, false, false, false, false, false, false, false, false, false, false, false] rfl rfl (any_of HT_.out (by kernel_rfl)) (fun _ _ _ h => h) (Or.inl ⟨by rfl, ?_⟩) ?_ ?_
                                rotate_left
                                · intro w'
                                  go_simp
                                  with_reducible rfl
                                rotate_left
                                · simp only [Act.put, List.setIfInBounds_toArray, List.set_cons_zero, List.set_cons_succ, i64_w, i32_w]
                                  rfl
                                refine pure_ (i := 14) (N := some 104) (v := ?_) (a' := ?_) #[true, true, true, true, true, true, true, true, true, true, true, true, true, true, true, false, false, false, false, false, false, false, false, false, false, false, false, false, false, false, false, false] rfl rfl (any_of HT_.out (by kernel_rfl)) (fun _ _ _ h => h) (Or.inl ⟨by rfl, ?_⟩) ?_ ?_
                                rotate_left
                                · intro w'
                                  go_simp
                                  with_reducible rfl
                                rotate_left
                                · simp only [Act.put, List.setIfInBounds_toArray, List.set_cons_zero, List.set_cons_succ, i64_w, i32_w]
                                  rfl
                                refine pure_ (i := 15) (N := some 105) (v := ?_) (a' := ?_) #[true, true, true, true, true, true, true, true, true, true, true, true, true, true, true, true, false, false, false, false, false, false, false, false, false, false, false, false, false, false, false, false] rfl rfl (any_of HT_.out (by kernel_rfl)) (fun _ _ _ h => h) (Or.inl ⟨by rfl, ?_⟩) ?_ ?_
                                rotate_left
                                · intro w'
                                  go_simp
                                  with_reducible rfl
                                rotate_left
                                · simp only [Act.put, List.setIfInBounds_toArray, List.set_cons_zero, List.set_cons_succ, i64_w, i32_w]
                                  rfl
                                refine one_ (i := 16) (N := some 106) #[true, true, true, true, true, true, true, true, true, true, true, true, true, true, true, true, true, false, false, false, false, false, false, false, false, false, false, false, false, false, false, false] rfl rfl (one_of HT_.out (by kernel_rfl)) (by decide) (fun K hK => ?_)
                                refine goes_ Try.func30 (by kernel_rfl) rfl #[.int .i64 5, .int .i64 1] (by rfl) rfl rfl (by (try simp only [List.map_toArray, List.map_cons, List.map_nil]); first | done | rfl | (simp only [List.length_drop, List.length_take]; rfl)) ?_
                                with_reducible refine (dancestudiolaw56_stamp.calls 5 1 t321 t322 _ A34.out).mono ?_
                                rintro e w111 ⟨rfl, hb⟩
                                refine ⟨_, rfl, ?_⟩
                                have n0_ := Aside0.mk (Kd.V_below (Kd.vU HO262.out) hb)
                                have n1_ := Aside0.mk (Kd.V_below (Kd.vU HO266.out) hb)
                                have n2_ := Aside0.mk (Kd.R_below (Kd.rU HO270.out) hb)
                                have n3_ := Aside0.mk (Kd.R_below (Kd.rU HO274.out) hb)
                                have n4_ := Aside0.mk (Kd.R_below (Kd.rU HO278.out) hb)
                                have n5_ := Aside0.mk (Kd.R_below (Kd.rU HO282.out) hb)
                                have n6_ := Aside0.mk (Kd.R_below (Kd.rU HO286.out) hb)
                                have n7_ := Aside0.mk (Kd.R_below (Kd.rU HO290.out) hb)
                                have n8_ := Aside0.mk (Kd.R_below (Kd.rU HO294.out) hb)
                                have n9_ := Aside0.mk (Kd.R_below (Kd.rU HO302.out) hb)
                                have n10_ := Aside0.mk (Kd.R_below (Kd.rU HO314.out) hb)
                                have n11_ := Aside0.mk (blk_below (bU BK254.out) hb)
                                have n12_ := Aside0.mk (blk_below (bU BK259.out) hb)
                                have n13_ := Aside0.mk (blk_below (bU BK306.out) hb)
                                have n14_ := Aside0.mk (blk_below (bU BK318.out) hb)
                                have n15_ := Aside0.mk (below_step (hU HB.out) hb)
                                clear HO262
                                clear HO266
                                clear HO270
                                clear HO274
                                clear HO278
                                clear HO282
                                clear HO286
                                clear HO290
                                clear HO294
                                clear HO302
                                clear HO314
                                clear BK254
                                clear BK259
                                clear BK306
                                clear BK318
                                clear HB
                                have HO262 := n0_
                                have HO266 := n1_
                                have HO270 := n2_
                                have HO274 := n3_
                                have HO278 := n4_
                                have HO282 := n5_
                                have HO286 := n6_
                                have HO290 := n7_
                                have HO294 := n8_
                                have HO302 := n9_
                                have HO314 := n10_
                                have BK254 := n11_
                                have BK259 := n12_
                                have BK306 := n13_
                                have BK318 := n14_
                                have HB := n15_
                                clear n0_ n1_ n2_ n3_ n4_ n5_ n6_ n7_ n8_ n9_ n10_ n11_ n12_ n13_ n14_ n15_
                                (try clear hb)
                                (try clear hb2)
                                (try clear hk)
                                (try clear hi)
                                refine hK.out _ _ ⟨(blk_cell BK306.out 0).trans rfl, (blk_cell BK306.out 1).trans rfl⟩ (fun hHeld => ?_)
                                clear hK K
                                refine norm_ (a' := ?_) ?_ ?_
                                rotate_left
                                · show Act.put _ (some 106) _ = _
                                  simp only [Act.put, List.setIfInBounds_toArray, List.set_cons_zero, List.set_cons_succ, i64_w, i32_w]
                                  rfl
                                refine one_ (i := 17) (N := some 107) #[true, true, true, true, true, true, true, true, true, true, true, true, true, true, true, true, true, true, false, false, false, false, false, false, false, false, false, false, false, false, false, false] rfl rfl (one_of HT_.out (by kernel_rfl)) (by decide) (fun K hK => ?_)
                                refine goes_ Try.func30 (by kernel_rfl) rfl #[.int .i64 5, .int .i64 2] (by rfl) rfl rfl (by (try simp only [List.map_toArray, List.map_cons, List.map_nil]); first | done | rfl | (simp only [List.length_drop, List.length_take]; rfl)) ?_
                                with_reducible refine (dancestudiolaw56_stamp.calls 5 2 t323 t324 _ A35.out).mono ?_
                                rintro e w112 ⟨rfl, hb⟩
                                refine ⟨_, rfl, ?_⟩
                                have n0_ := Aside0.mk (Kd.V_below (Kd.vU HO262.out) hb)
                                have n1_ := Aside0.mk (Kd.V_below (Kd.vU HO266.out) hb)
                                have n2_ := Aside0.mk (Kd.R_below (Kd.rU HO270.out) hb)
                                have n3_ := Aside0.mk (Kd.R_below (Kd.rU HO274.out) hb)
                                have n4_ := Aside0.mk (Kd.R_below (Kd.rU HO278.out) hb)
                                have n5_ := Aside0.mk (Kd.R_below (Kd.rU HO282.out) hb)
                                have n6_ := Aside0.mk (Kd.R_below (Kd.rU HO286.out) hb)
                                have n7_ := Aside0.mk (Kd.R_below (Kd.rU HO290.out) hb)
                                have n8_ := Aside0.mk (Kd.R_below (Kd.rU HO294.out) hb)
                                have n9_ := Aside0.mk (Kd.R_below (Kd.rU HO302.out) hb)
                                have n10_ := Aside0.mk (Kd.R_below (Kd.rU HO314.out) hb)
                                have n11_ := Aside0.mk (blk_below (bU BK254.out) hb)
                                have n12_ := Aside0.mk (blk_below (bU BK259.out) hb)
                                have n13_ := Aside0.mk (blk_below (bU BK306.out) hb)
                                have n14_ := Aside0.mk (blk_below (bU BK318.out) hb)
                                have n15_ := Aside0.mk (below_step (hU HB.out) hb)
                                clear HO262
                                clear HO266
                                clear HO270
                                clear HO274
                                clear HO278
                                clear HO282
                                clear HO286
                                clear HO290
                                clear HO294
                                clear HO302
                                clear HO314
                                clear BK254
                                clear BK259
                                clear BK306
                                clear BK318
                                clear HB
                                have HO262 := n0_
                                have HO266 := n1_
                                have HO270 := n2_
                                have HO274 := n3_
                                have HO278 := n4_
                                have HO282 := n5_
                                have HO286 := n6_
                                have HO290 := n7_
                                have HO294 := n8_
                                have HO302 := n9_
                                have HO314 := n10_
                                have BK254 := n11_
                                have BK259 := n12_
                                have BK306 := n13_
                                have BK318 := n14_
                                have HB := n15_
                                clear n0_ n1_ n2_ n3_ n4_ n5_ n6_ n7_ n8_ n9_ n10_ n11_ n12_ n13_ n14_ n15_
                                (try clear hb)
                                (try clear hb2)
                                (try clear hk)
                                (try clear hi)
                                refine hK.out _ _ ⟨(blk_cell BK306.out 0).trans rfl, (blk_cell BK306.out 1).trans rfl⟩ (fun hHeld => ?_)
                                clear hK K
                                refine norm_ (a' := ?_) ?_ ?_
                                rotate_left
                                · show Act.put _ (some 107) _ = _
                                  simp only [Act.put, List.setIfInBounds_toArray, List.set_cons_zero, List.set_cons_succ, i64_w, i32_w]
                                  rfl
                                refine one_ (i := 18) (N := some 108) #[true, true, true, true, true, true, true, true, true, true, true, true, true, true, true, true, true, true, true, false, false, false, false, false, false, false, false, false, false, false, false, false] rfl rfl (one_of HT_.out (by kernel_rfl)) (by decide) (fun K hK => ?_)
                                refine goes_ Try.func21 (by kernel_rfl) rfl #[.agg #[.int .i64 t321, .int .i64 t322], .agg #[.int .i64 t323, .int .i64 t324]] (by rfl) rfl rfl (by (try simp only [List.map_toArray, List.map_cons, List.map_nil]); first | done | rfl | (simp only [List.length_drop, List.length_take]; rfl)) ?_
                                with_reducible refine (edits_Less.calls t321 t322 t323 t324 true _ A36.out).mono ?_
                                rintro e w113 ⟨rfl, hb⟩
                                refine ⟨_, rfl, ?_⟩
                                have n0_ := Aside0.mk (Kd.V_below (Kd.vU HO262.out) hb)
                                have n1_ := Aside0.mk (Kd.V_below (Kd.vU HO266.out) hb)
                                have n2_ := Aside0.mk (Kd.R_below (Kd.rU HO270.out) hb)
                                have n3_ := Aside0.mk (Kd.R_below (Kd.rU HO274.out) hb)
                                have n4_ := Aside0.mk (Kd.R_below (Kd.rU HO278.out) hb)
                                have n5_ := Aside0.mk (Kd.R_below (Kd.rU HO282.out) hb)
                                have n6_ := Aside0.mk (Kd.R_below (Kd.rU HO286.out) hb)
                                have n7_ := Aside0.mk (Kd.R_below (Kd.rU HO290.out) hb)
                                have n8_ := Aside0.mk (Kd.R_below (Kd.rU HO294.out) hb)
                                have n9_ := Aside0.mk (Kd.R_below (Kd.rU HO302.out) hb)
                                have n10_ := Aside0.mk (Kd.R_below (Kd.rU HO314.out) hb)
                                have n11_ := Aside0.mk (blk_below (bU BK254.out) hb)
                                have n12_ := Aside0.mk (blk_below (bU BK259.out) hb)
                                have n13_ := Aside0.mk (blk_below (bU BK306.out) hb)
                                have n14_ := Aside0.mk (blk_below (bU BK318.out) hb)
                                have n15_ := Aside0.mk (below_step (hU HB.out) hb)
                                clear HO262
                                clear HO266
                                clear HO270
                                clear HO274
                                clear HO278
                                clear HO282
                                clear HO286
                                clear HO290
                                clear HO294
                                clear HO302
                                clear HO314
                                clear BK254
                                clear BK259
                                clear BK306
                                clear BK318
                                clear HB
                                have HO262 := n0_
                                have HO266 := n1_
                                have HO270 := n2_
                                have HO274 := n3_
                                have HO278 := n4_
                                have HO282 := n5_
                                have HO286 := n6_
                                have HO290 := n7_
                                have HO294 := n8_
                                have HO302 := n9_
                                have HO314 := n10_
                                have BK254 := n11_
                                have BK259 := n12_
                                have BK306 := n13_
                                have BK318 := n14_
                                have HB := n15_
                                clear n0_ n1_ n2_ n3_ n4_ n5_ n6_ n7_ n8_ n9_ n10_ n11_ n12_ n13_ n14_ n15_
                                (try clear hb)
                                (try clear hb2)
                                (try clear hk)
                                (try clear hi)
                                refine hK.out _ _ ⟨(blk_cell BK306.out 0).trans rfl, (blk_cell BK306.out 1).trans rfl⟩ (fun hHeld => ?_)
                                clear hK K
                                refine norm_ (a' := ?_) ?_ ?_
                                rotate_left
                                · show Act.put _ (some 108) _ = _
                                  simp only [Act.put, List.setIfInBounds_toArray, List.set_cons_zero, List.set_cons_succ, i64_w, i32_w]
                                  rfl
                                refine pure_ (i := 19) (N := some 109) (v := ?_) (a' := ?_) #[true, true, true, true, true, true, true, true, true, true, true, true, true, true, true, true, true, true, true, true, false, false, false, false, false, false, false, false, false, false, false, false] rfl rfl (any_of HT_.out (by kernel_rfl)) (fun _ _ _ h => h) (Or.inl ⟨by rfl, ?_⟩) ?_ ?_
                                rotate_left
                                · intro w'
                                  go_simp
                                  with_reducible rfl
                                rotate_left
                                · simp only [Act.put, List.setIfInBounds_toArray, List.set_cons_zero, List.set_cons_succ, i64_w, i32_w]
                                  rfl
                                refine pure_ (i := 20) (N := some 110) (v := ?_) (a' := ?_) #[true, true, true, true, true, true, true, true, true, true, true, true, true, true, true, true, true, true, true, true, true, false, false, false, false, false, false, false, false, false, false, false] rfl rfl (any_of HT_.out (by kernel_rfl)) (fun _ _ _ h => h) (Or.inl ⟨by rfl, ?_⟩) ?_ ?_
                                rotate_left
                                · intro w'
                                  go_simp
                                  with_reducible rfl
                                rotate_left
                                · simp only [Act.put, List.setIfInBounds_toArray, List.set_cons_zero, List.set_cons_succ, i64_w, i32_w]
                                  rfl
                                refine one_ (i := 21) (N := some 111) #[true, true, true, true, true, true, true, true, true, true, true, true, true, true, true, true, true, true, true, true, true, true, false, false, false, false, false, false, false, false, false, false] rfl rfl (one_of HT_.out (by kernel_rfl)) (by decide) (fun K hK => ?_)
                                refine goes_ Try.func30 (by kernel_rfl) rfl #[.int .i64 5, .int .i64 2] (by rfl) rfl rfl (by (try simp only [List.map_toArray, List.map_cons, List.map_nil]); first | done | rfl | (simp only [List.length_drop, List.length_take]; rfl)) ?_
                                with_reducible refine (dancestudiolaw56_stamp.calls 5 2 t326 t327 _ A38.out).mono ?_
                                rintro e w114 ⟨rfl, hb⟩
                                refine ⟨_, rfl, ?_⟩
                                have n0_ := Aside0.mk (Kd.V_below (Kd.vU HO262.out) hb)
                                have n1_ := Aside0.mk (Kd.V_below (Kd.vU HO266.out) hb)
                                have n2_ := Aside0.mk (Kd.R_below (Kd.rU HO270.out) hb)
                                have n3_ := Aside0.mk (Kd.R_below (Kd.rU HO274.out) hb)
                                have n4_ := Aside0.mk (Kd.R_below (Kd.rU HO278.out) hb)
                                have n5_ := Aside0.mk (Kd.R_below (Kd.rU HO282.out) hb)
                                have n6_ := Aside0.mk (Kd.R_below (Kd.rU HO286.out) hb)
                                have n7_ := Aside0.mk (Kd.R_below (Kd.rU HO290.out) hb)
                                have n8_ := Aside0.mk (Kd.R_below (Kd.rU HO294.out) hb)
                                have n9_ := Aside0.mk (Kd.R_below (Kd.rU HO302.out) hb)
                                have n10_ := Aside0.mk (Kd.R_below (Kd.rU HO314.out) hb)
                                have n11_ := Aside0.mk (blk_below (bU BK254.out) hb)
                                have n12_ := Aside0.mk (blk_below (bU BK259.out) hb)
                                have n13_ := Aside0.mk (blk_below (bU BK306.out) hb)
                                have n14_ := Aside0.mk (blk_below (bU BK318.out) hb)
                                have n15_ := Aside0.mk (below_step (hU HB.out) hb)
                                clear HO262
                                clear HO266
                                clear HO270
                                clear HO274
                                clear HO278
                                clear HO282
                                clear HO286
                                clear HO290
                                clear HO294
                                clear HO302
                                clear HO314
                                clear BK254
                                clear BK259
                                clear BK306
                                clear BK318
                                clear HB
                                have HO262 := n0_
                                have HO266 := n1_
                                have HO270 := n2_
                                have HO274 := n3_
                                have HO278 := n4_
                                have HO282 := n5_
                                have HO286 := n6_
                                have HO290 := n7_
                                have HO294 := n8_
                                have HO302 := n9_
                                have HO314 := n10_
                                have BK254 := n11_
                                have BK259 := n12_
                                have BK306 := n13_
                                have BK318 := n14_
                                have HB := n15_
                                clear n0_ n1_ n2_ n3_ n4_ n5_ n6_ n7_ n8_ n9_ n10_ n11_ n12_ n13_ n14_ n15_
                                (try clear hb)
                                (try clear hb2)
                                (try clear hk)
                                (try clear hi)
                                refine hK.out _ _ ⟨(blk_cell BK306.out 0).trans rfl, (blk_cell BK306.out 1).trans rfl⟩ (fun hHeld => ?_)
                                clear hK K
                                refine norm_ (a' := ?_) ?_ ?_
                                rotate_left
                                · show Act.put _ (some 111) _ = _
                                  simp only [Act.put, List.setIfInBounds_toArray, List.set_cons_zero, List.set_cons_succ, i64_w, i32_w]
                                  rfl
                                refine one_ (i := 22) (N := some 112) #[true, true, true, true, true, true, true, true, true, true, true, true, true, true, true, true, true, true, true, true, true, true, true, false, false, false, false, false, false, false, false, false] rfl rfl (one_of HT_.out (by kernel_rfl)) (by decide) (fun K hK => ?_)
                                refine goes_ Try.func30 (by kernel_rfl) rfl #[.int .i64 6, .int .i64 1] (by rfl) rfl rfl (by (try simp only [List.map_toArray, List.map_cons, List.map_nil]); first | done | rfl | (simp only [List.length_drop, List.length_take]; rfl)) ?_
                                with_reducible refine (dancestudiolaw56_stamp.calls 6 1 t328 t329 _ A39.out).mono ?_
                                rintro e w115 ⟨rfl, hb⟩
                                refine ⟨_, rfl, ?_⟩
                                have n0_ := Aside0.mk (Kd.V_below (Kd.vU HO262.out) hb)
                                have n1_ := Aside0.mk (Kd.V_below (Kd.vU HO266.out) hb)
                                have n2_ := Aside0.mk (Kd.R_below (Kd.rU HO270.out) hb)
                                have n3_ := Aside0.mk (Kd.R_below (Kd.rU HO274.out) hb)
                                have n4_ := Aside0.mk (Kd.R_below (Kd.rU HO278.out) hb)
                                have n5_ := Aside0.mk (Kd.R_below (Kd.rU HO282.out) hb)
                                have n6_ := Aside0.mk (Kd.R_below (Kd.rU HO286.out) hb)
                                have n7_ := Aside0.mk (Kd.R_below (Kd.rU HO290.out) hb)
                                have n8_ := Aside0.mk (Kd.R_below (Kd.rU HO294.out) hb)
                                have n9_ := Aside0.mk (Kd.R_below (Kd.rU HO302.out) hb)
                                have n10_ := Aside0.mk (Kd.R_below (Kd.rU HO314.out) hb)
                                have n11_ := Aside0.mk (blk_below (bU BK254.out) hb)
                                have n12_ := Aside0.mk (blk_below (bU BK259.out) hb)
                                have n13_ := Aside0.mk (blk_below (bU BK306.out) hb)
                                have n14_ := Aside0.mk (blk_below (bU BK318.out) hb)
                                have n15_ := Aside0.mk (below_step (hU HB.out) hb)
                                clear HO262
                                clear HO266
                                clear HO270
                                clear HO274
                                clear HO278
                                clear HO282
                                clear HO286
                                clear HO290
                                clear HO294
                                clear HO302
                                clear HO314
                                clear BK254
                                clear BK259
                                clear BK306
                                clear BK318
                                clear HB
                                have HO262 := n0_
                                have HO266 := n1_
                                have HO270 := n2_
                                have HO274 := n3_
                                have HO278 := n4_
                                have HO282 := n5_
                                have HO286 := n6_
                                have HO290 := n7_
                                have HO294 := n8_
                                have HO302 := n9_
                                have HO314 := n10_
                                have BK254 := n11_
                                have BK259 := n12_
                                have BK306 := n13_
                                have BK318 := n14_
                                have HB := n15_
                                clear n0_ n1_ n2_ n3_ n4_ n5_ n6_ n7_ n8_ n9_ n10_ n11_ n12_ n13_ n14_ n15_
                                (try clear hb)
                                (try clear hb2)
                                (try clear hk)
                                (try clear hi)
                                refine hK.out _ _ ⟨(blk_cell BK306.out 0).trans rfl, (blk_cell BK306.out 1).trans rfl⟩ (fun hHeld => ?_)
                                clear hK K
                                refine norm_ (a' := ?_) ?_ ?_
                                rotate_left
                                · show Act.put _ (some 112) _ = _
                                  simp only [Act.put, List.setIfInBounds_toArray, List.set_cons_zero, List.set_cons_succ, i64_w, i32_w]
                                  rfl
                                refine one_ (i := 23) (N := some 113) #[true, true, true, true, true, true, true, true, true, true, true, true, true, true, true, true, true, true, true, true, true, true, true, true, false, false, false, false, false, false, false, false] rfl rfl (one_of HT_.out (by kernel_rfl)) (by decide) (fun K hK => ?_)
                                refine goes_ Try.func21 (by kernel_rfl) rfl #[.agg #[.int .i64 t326, .int .i64 t327], .agg #[.int .i64 t328, .int .i64 t329]] (by rfl) rfl rfl (by (try simp only [List.map_toArray, List.map_cons, List.map_nil]); first | done | rfl | (simp only [List.length_drop, List.length_take]; rfl)) ?_
                                with_reducible refine (edits_Less.calls t326 t327 t328 t329 true _ A40.out).mono ?_
                                rintro e w116 ⟨rfl, hb⟩
                                refine ⟨_, rfl, ?_⟩
                                have n0_ := Aside0.mk (Kd.V_below (Kd.vU HO262.out) hb)
                                have n1_ := Aside0.mk (Kd.V_below (Kd.vU HO266.out) hb)
                                have n2_ := Aside0.mk (Kd.R_below (Kd.rU HO270.out) hb)
                                have n3_ := Aside0.mk (Kd.R_below (Kd.rU HO274.out) hb)
                                have n4_ := Aside0.mk (Kd.R_below (Kd.rU HO278.out) hb)
                                have n5_ := Aside0.mk (Kd.R_below (Kd.rU HO282.out) hb)
                                have n6_ := Aside0.mk (Kd.R_below (Kd.rU HO286.out) hb)
                                have n7_ := Aside0.mk (Kd.R_below (Kd.rU HO290.out) hb)
                                have n8_ := Aside0.mk (Kd.R_below (Kd.rU HO294.out) hb)
                                have n9_ := Aside0.mk (Kd.R_below (Kd.rU HO302.out) hb)
                                have n10_ := Aside0.mk (Kd.R_below (Kd.rU HO314.out) hb)
                                have n11_ := Aside0.mk (blk_below (bU BK254.out) hb)
                                have n12_ := Aside0.mk (blk_below (bU BK259.out) hb)
                                have n13_ := Aside0.mk (blk_below (bU BK306.out) hb)
                                have n14_ := Aside0.mk (blk_below (bU BK318.out) hb)
                                have n15_ := Aside0.mk (below_step (hU HB.out) hb)
                                clear HO262
                                clear HO266
                                clear HO270
                                clear HO274
                                clear HO278
                                clear HO282
                                clear HO286
                                clear HO290
                                clear HO294
                                clear HO302
                                clear HO314
                                clear BK254
                                clear BK259
                                clear BK306
                                clear BK318
                                clear HB
                                have HO262 := n0_
                                have HO266 := n1_
                                have HO270 := n2_
                                have HO274 := n3_
                                have HO278 := n4_
                                have HO282 := n5_
                                have HO286 := n6_
                                have HO290 := n7_
                                have HO294 := n8_
                                have HO302 := n9_
                                have HO314 := n10_
                                have BK254 := n11_
                                have BK259 := n12_
                                have BK306 := n13_
                                have BK318 := n14_
                                have HB := n15_
                                clear n0_ n1_ n2_ n3_ n4_ n5_ n6_ n7_ n8_ n9_ n10_ n11_ n12_ n13_ n14_ n15_
                                (try clear hb)
                                (try clear hb2)
                                (try clear hk)
                                (try clear hi)
                                refine hK.out _ _ ⟨(blk_cell BK306.out 0).trans rfl, (blk_cell BK306.out 1).trans rfl⟩ (fun hHeld => ?_)
                                clear hK K
                                refine norm_ (a' := ?_) ?_ ?_
                                rotate_left
                                · show Act.put _ (some 113) _ = _
                                  simp only [Act.put, List.setIfInBounds_toArray, List.set_cons_zero, List.set_cons_succ, i64_w, i32_w]
                                  rfl
                                refine pure_ (i := 24) (N := some 114) (v := ?_) (a' := ?_) #[true, true, true, true, true, true, true, true, true, true, true, true, true, true, true, true, true, true, true, true, true, true, true, true, true, false, false, false, false, false, false, false] rfl rfl (any_of HT_.out (by kernel_rfl)) (fun _ _ _ h => h) (Or.inl ⟨by rfl, ?_⟩) ?_ ?_
                                rotate_left
                                · intro w'
                                  go_simp
                                  with_reducible rfl
                                rotate_left
                                · simp only [Act.put, List.setIfInBounds_toArray, List.set_cons_zero, List.set_cons_succ, i64_w, i32_w]
                                  rfl
                                refine pure_ (i := 25) (N := some 115) (v := ?_) (a' := ?_) #[true, true, true, true, true, true, true, true, true, true, true, true, true, true, true, true, true, true, true, true, true, true, true, true, true, true, false, false, false, false, false, false] rfl rfl (any_of HT_.out (by kernel_rfl)) (fun _ _ _ h => h) (Or.inl ⟨by rfl, ?_⟩) ?_ ?_
                                rotate_left
                                · intro w'
                                  go_simp
                                  with_reducible rfl
                                rotate_left
                                · simp only [Act.put, List.setIfInBounds_toArray, List.set_cons_zero, List.set_cons_succ, i64_w, i32_w]
                                  rfl
                                refine one_ (i := 26) (N := some 116) #[true, true, true, true, true, true, true, true, true, true, true, true, true, true, true, true, true, true, true, true, true, true, true, true, true, true, true, false, false, false, false, false] rfl rfl (one_of HT_.out (by kernel_rfl)) (by decide) (fun K hK => ?_)
                                refine goes_ Try.func30 (by kernel_rfl) rfl #[.int .i64 5, .int .i64 1] (by rfl) rfl rfl (by (try simp only [List.map_toArray, List.map_cons, List.map_nil]); first | done | rfl | (simp only [List.length_drop, List.length_take]; rfl)) ?_
                                with_reducible refine (dancestudiolaw56_stamp.calls 5 1 t331 t332 _ A42.out).mono ?_
                                rintro e w117 ⟨rfl, hb⟩
                                refine ⟨_, rfl, ?_⟩
                                have n0_ := Aside0.mk (Kd.V_below (Kd.vU HO262.out) hb)
                                have n1_ := Aside0.mk (Kd.V_below (Kd.vU HO266.out) hb)
                                have n2_ := Aside0.mk (Kd.R_below (Kd.rU HO270.out) hb)
                                have n3_ := Aside0.mk (Kd.R_below (Kd.rU HO274.out) hb)
                                have n4_ := Aside0.mk (Kd.R_below (Kd.rU HO278.out) hb)
                                have n5_ := Aside0.mk (Kd.R_below (Kd.rU HO282.out) hb)
                                have n6_ := Aside0.mk (Kd.R_below (Kd.rU HO286.out) hb)
                                have n7_ := Aside0.mk (Kd.R_below (Kd.rU HO290.out) hb)
                                have n8_ := Aside0.mk (Kd.R_below (Kd.rU HO294.out) hb)
                                have n9_ := Aside0.mk (Kd.R_below (Kd.rU HO302.out) hb)
                                have n10_ := Aside0.mk (Kd.R_below (Kd.rU HO314.out) hb)
                                have n11_ := Aside0.mk (blk_below (bU BK254.out) hb)
                                have n12_ := Aside0.mk (blk_below (bU BK259.out) hb)
                                have n13_ := Aside0.mk (blk_below (bU BK306.out) hb)
                                have n14_ := Aside0.mk (blk_below (bU BK318.out) hb)
                                have n15_ := Aside0.mk (below_step (hU HB.out) hb)
                                clear HO262
                                clear HO266
                                clear HO270
                                clear HO274
                                clear HO278
                                clear HO282
                                clear HO286
                                clear HO290
                                clear HO294
                                clear HO302
                                clear HO314
                                clear BK254
                                clear BK259
                                clear BK306
                                clear BK318
                                clear HB
                                have HO262 := n0_
                                have HO266 := n1_
                                have HO270 := n2_
                                have HO274 := n3_
                                have HO278 := n4_
                                have HO282 := n5_
                                have HO286 := n6_
                                have HO290 := n7_
                                have HO294 := n8_
                                have HO302 := n9_
                                have HO314 := n10_
                                have BK254 := n11_
                                have BK259 := n12_
                                have BK306 := n13_
                                have BK318 := n14_
                                have HB := n15_
                                clear n0_ n1_ n2_ n3_ n4_ n5_ n6_ n7_ n8_ n9_ n10_ n11_ n12_ n13_ n14_ n15_
                                (try clear hb)
                                (try clear hb2)
                                (try clear hk)
                                (try clear hi)
                                refine hK.out _ _ ⟨(blk_cell BK306.out 0).trans rfl, (blk_cell BK306.out 1).trans rfl⟩ (fun hHeld => ?_)
                                clear hK K
                                refine norm_ (a' := ?_) ?_ ?_
                                rotate_left
                                · show Act.put _ (some 116) _ = _
                                  simp only [Act.put, List.setIfInBounds_toArray, List.set_cons_zero, List.set_cons_succ, i64_w, i32_w]
                                  rfl
                                refine one_ (i := 27) (N := some 117) #[true, true, true, true, true, true, true, true, true, true, true, true, true, true, true, true, true, true, true, true, true, true, true, true, true, true, true, true, false, false, false, false] rfl rfl (one_of HT_.out (by kernel_rfl)) (by decide) (fun K hK => ?_)
                                refine goes_ Try.func30 (by kernel_rfl) rfl #[.int .i64 5, .int .i64 1] (by rfl) rfl rfl (by (try simp only [List.map_toArray, List.map_cons, List.map_nil]); first | done | rfl | (simp only [List.length_drop, List.length_take]; rfl)) ?_
                                with_reducible refine (dancestudiolaw56_stamp.calls 5 1 t333 t334 _ A43.out).mono ?_
                                rintro e w118 ⟨rfl, hb⟩
                                refine ⟨_, rfl, ?_⟩
                                have n0_ := Aside0.mk (Kd.V_below (Kd.vU HO262.out) hb)
                                have n1_ := Aside0.mk (Kd.V_below (Kd.vU HO266.out) hb)
                                have n2_ := Aside0.mk (Kd.R_below (Kd.rU HO270.out) hb)
                                have n3_ := Aside0.mk (Kd.R_below (Kd.rU HO274.out) hb)
                                have n4_ := Aside0.mk (Kd.R_below (Kd.rU HO278.out) hb)
                                have n5_ := Aside0.mk (Kd.R_below (Kd.rU HO282.out) hb)
                                have n6_ := Aside0.mk (Kd.R_below (Kd.rU HO286.out) hb)
                                have n7_ := Aside0.mk (Kd.R_below (Kd.rU HO290.out) hb)
                                have n8_ := Aside0.mk (Kd.R_below (Kd.rU HO294.out) hb)
                                have n9_ := Aside0.mk (Kd.R_below (Kd.rU HO302.out) hb)
                                have n10_ := Aside0.mk (Kd.R_below (Kd.rU HO314.out) hb)
                                have n11_ := Aside0.mk (blk_below (bU BK254.out) hb)
                                have n12_ := Aside0.mk (blk_below (bU BK259.out) hb)
                                have n13_ := Aside0.mk (blk_below (bU BK306.out) hb)
                                have n14_ := Aside0.mk (blk_below (bU BK318.out) hb)
                                have n15_ := Aside0.mk (below_step (hU HB.out) hb)
                                clear HO262
                                clear HO266
                                clear HO270
                                clear HO274
                                clear HO278
                                clear HO282
                                clear HO286
                                clear HO290
                                clear HO294
                                clear HO302
                                clear HO314
                                clear BK254
                                clear BK259
                                clear BK306
                                clear BK318
                                clear HB
                                have HO262 := n0_
                                have HO266 := n1_
                                have HO270 := n2_
                                have HO274 := n3_
                                have HO278 := n4_
                                have HO282 := n5_
                                have HO286 := n6_
                                have HO290 := n7_
                                have HO294 := n8_
                                have HO302 := n9_
                                have HO314 := n10_
                                have BK254 := n11_
                                have BK259 := n12_
                                have BK306 := n13_
                                have BK318 := n14_
                                have HB := n15_
                                clear n0_ n1_ n2_ n3_ n4_ n5_ n6_ n7_ n8_ n9_ n10_ n11_ n12_ n13_ n14_ n15_
                                (try clear hb)
                                (try clear hb2)
                                (try clear hk)
                                (try clear hi)
                                refine hK.out _ _ ⟨(blk_cell BK306.out 0).trans rfl, (blk_cell BK306.out 1).trans rfl⟩ (fun hHeld => ?_)
                                clear hK K
                                refine norm_ (a' := ?_) ?_ ?_
                                rotate_left
                                · show Act.put _ (some 117) _ = _
                                  simp only [Act.put, List.setIfInBounds_toArray, List.set_cons_zero, List.set_cons_succ, i64_w, i32_w]
                                  rfl
                                refine one_ (i := 28) (N := some 118) #[true, true, true, true, true, true, true, true, true, true, true, true, true, true, true, true, true, true, true, true, true, true, true, true, true, true, true, true, true, false, false, false] rfl rfl (one_of HT_.out (by kernel_rfl)) (by decide) (fun K hK => ?_)
                                refine goes_ Try.func21 (by kernel_rfl) rfl #[.agg #[.int .i64 t331, .int .i64 t332], .agg #[.int .i64 t333, .int .i64 t334]] (by rfl) rfl rfl (by (try simp only [List.map_toArray, List.map_cons, List.map_nil]); first | done | rfl | (simp only [List.length_drop, List.length_take]; rfl)) ?_
                                with_reducible refine (edits_Less.calls t331 t332 t333 t334 t335 _ A44.out).mono ?_
                                rintro e w119 ⟨rfl, hb⟩
                                refine ⟨_, rfl, ?_⟩
                                have n0_ := Aside0.mk (Kd.V_below (Kd.vU HO262.out) hb)
                                have n1_ := Aside0.mk (Kd.V_below (Kd.vU HO266.out) hb)
                                have n2_ := Aside0.mk (Kd.R_below (Kd.rU HO270.out) hb)
                                have n3_ := Aside0.mk (Kd.R_below (Kd.rU HO274.out) hb)
                                have n4_ := Aside0.mk (Kd.R_below (Kd.rU HO278.out) hb)
                                have n5_ := Aside0.mk (Kd.R_below (Kd.rU HO282.out) hb)
                                have n6_ := Aside0.mk (Kd.R_below (Kd.rU HO286.out) hb)
                                have n7_ := Aside0.mk (Kd.R_below (Kd.rU HO290.out) hb)
                                have n8_ := Aside0.mk (Kd.R_below (Kd.rU HO294.out) hb)
                                have n9_ := Aside0.mk (Kd.R_below (Kd.rU HO302.out) hb)
                                have n10_ := Aside0.mk (Kd.R_below (Kd.rU HO314.out) hb)
                                have n11_ := Aside0.mk (blk_below (bU BK254.out) hb)
                                have n12_ := Aside0.mk (blk_below (bU BK259.out) hb)
                                have n13_ := Aside0.mk (blk_below (bU BK306.out) hb)
                                have n14_ := Aside0.mk (blk_below (bU BK318.out) hb)
                                have n15_ := Aside0.mk (below_step (hU HB.out) hb)
                                clear HO262
                                clear HO266
                                clear HO270
                                clear HO274
                                clear HO278
                                clear HO282
                                clear HO286
                                clear HO290
                                clear HO294
                                clear HO302
                                clear HO314
                                clear BK254
                                clear BK259
                                clear BK306
                                clear BK318
                                clear HB
                                have HO262 := n0_
                                have HO266 := n1_
                                have HO270 := n2_
                                have HO274 := n3_
                                have HO278 := n4_
                                have HO282 := n5_
                                have HO286 := n6_
                                have HO290 := n7_
                                have HO294 := n8_
                                have HO302 := n9_
                                have HO314 := n10_
                                have BK254 := n11_
                                have BK259 := n12_
                                have BK306 := n13_
                                have BK318 := n14_
                                have HB := n15_
                                clear n0_ n1_ n2_ n3_ n4_ n5_ n6_ n7_ n8_ n9_ n10_ n11_ n12_ n13_ n14_ n15_
                                (try clear hb)
                                (try clear hb2)
                                (try clear hk)
                                (try clear hi)
                                refine hK.out _ _ ⟨(blk_cell BK306.out 0).trans rfl, (blk_cell BK306.out 1).trans rfl⟩ (fun hHeld => ?_)
                                clear hK K
                                refine norm_ (a' := ?_) ?_ ?_
                                rotate_left
                                · show Act.put _ (some 118) _ = _
                                  simp only [Act.put, List.setIfInBounds_toArray, List.set_cons_zero, List.set_cons_succ, i64_w, i32_w]
                                  rfl
                                refine pure_ (i := 29) (N := some 119) (v := ?_) (a' := ?_) #[true, true, true, true, true, true, true, true, true, true, true, true, true, true, true, true, true, true, true, true, true, true, true, true, true, true, true, true, true, true, false, false] rfl rfl (any_of HT_.out (by kernel_rfl)) (fun _ _ _ h => h) (Or.inl ⟨by rfl, ?_⟩) ?_ ?_
                                rotate_left
                                · intro w'
                                  go_simp
                                  with_reducible rfl
                                rotate_left
                                · simp only [Act.put, List.setIfInBounds_toArray, List.set_cons_zero, List.set_cons_succ, i64_w, i32_w]
                                  rfl
                                refine pure_ (i := 30) (N := some 120) (v := ?_) (a' := ?_) #[true, true, true, true, true, true, true, true, true, true, true, true, true, true, true, true, true, true, true, true, true, true, true, true, true, true, true, true, true, true, true, false] rfl rfl (any_of HT_.out (by kernel_rfl)) (fun _ _ _ h => h) (Or.inl ⟨by rfl, ?_⟩) ?_ ?_
                                rotate_left
                                · intro w'
                                  go_simp
                                  with_reducible rfl
                                rotate_left
                                · simp only [Act.put, List.setIfInBounds_toArray, List.set_cons_zero, List.set_cons_succ, i64_w, i32_w]
                                  rfl
                                refine pure_ (i := 31) (N := some 0) (v := ?_) (a' := ?_) #[true, true, true, true, true, true, true, true, true, true, true, true, true, true, true, true, true, true, true, true, true, true, true, true, true, true, true, true, true, true, true, true] rfl rfl (any_of HT_.out (by kernel_rfl)) (fun _ _ _ h => h) (Or.inl ⟨by rfl, ?_⟩) ?_ ?_
                                rotate_left
                                · intro w'
                                  go_simp
                                  with_reducible rfl
                                rotate_left
                                · simp only [Act.put, List.setIfInBounds_toArray, List.set_cons_zero, List.set_cons_succ, i64_w, i32_w]
                                  rfl
                                refine done_ (done_of HT_.out (by kernel_rfl)) ?_
                                try go_wp2
                                go_ret
                                exact ⟨by first | rfl | (simp [errW_none, errW_some] <;> rfl) | (simp [*, errW_none, errW_some] <;> rfl), hU HB.out⟩
                              · replace c41 := Bool.eq_false_iff.mpr c41
                                subst c41
                                have H1 : (none) = some r := by rw [if_neg (show ¬ (false = true) by decide)] at H; exact H
                                clear H
                                have H := H1
                                clear H1
                                exact absurd H (by simp)
                            · replace c37 := Bool.eq_false_iff.mpr c37
                              subst c37
                              have H1 : (none) = some r := by rw [if_neg (show ¬ (false = true) by decide)] at H; exact H
                              clear H
                              have H := H1
                              clear H1
                              exact absurd H (by simp)
                          · rw [if_neg c33] at H
                            exact absurd H (by simp)
                        · rw [if_neg c32] at H
                          exact absurd H (by simp)
                      · rw [if_neg c31] at H
                        exact absurd H (by simp)
                    · rw [if_neg c30] at H
                      exact absurd H (by simp)
                  · replace c22 := Bool.eq_false_iff.mpr c22
                    subst c22
                    have H1 : (none) = some r := by rw [if_neg (show ¬ (false = true) by decide)] at H; exact H
                    clear H
                    have H := H1
                    clear H1
                    exact absurd H (by simp)
                · replace c20 := Bool.eq_false_iff.mpr c20
                  subst c20
                  have H1 : (none) = some r := by rw [if_neg (show ¬ (false = true) by decide)] at H; exact H
                  clear H
                  have H := H1
                  clear H1
                  exact absurd H (by simp)
              · replace c18 := Bool.eq_false_iff.mpr c18
                subst c18
                have H1 : (none) = some r := by rw [if_neg (show ¬ (false = true) by decide)] at H; exact H
                clear H
                have H := H1
                clear H1
                exact absurd H (by simp)
            · replace c16 := Bool.eq_false_iff.mpr c16
              subst c16
              have H1 : (none) = some r := by rw [if_neg (show ¬ (false = true) by decide)] at H; exact H
              clear H
              have H := H1
              clear H1
              exact absurd H (by simp)
          · replace c14 := Bool.eq_false_iff.mpr c14
            subst c14
            have H1 : (none) = some r := by rw [if_neg (show ¬ (false = true) by decide)] at H; exact H
            clear H
            have H := H1
            clear H1
            exact absurd H (by simp)
        · replace c12 := Bool.eq_false_iff.mpr c12
          subst c12
          have H1 : (none) = some r := by rw [if_neg (show ¬ (false = true) by decide)] at H; exact H
          clear H
          have H := H1
          clear H1
          exact absurd H (by simp)
      · replace c10 := Bool.eq_false_iff.mpr c10
        subst c10
        have H1 : (none) = some r := by rw [if_neg (show ¬ (false = true) by decide)] at H; exact H
        clear H
        have H := H1
        clear H1
        exact absurd H (by simp)
    · rw [if_neg c8] at H
      exact absurd H (by simp)
  · rw [if_neg c7] at H
    exact absurd H (by simp)

end Go.Proofs.Ytekagaimfdbgiaa.P

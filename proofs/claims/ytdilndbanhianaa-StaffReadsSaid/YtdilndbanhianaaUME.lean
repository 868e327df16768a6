/- Texts of this seat in one: P17, AwakeA; no condition. -/
import Derived.Test.YtdilndbanhianaaUReg
import Derived.Test.YtdilndbanhianaaUWGuard
import Derived.Test.YtdilndbanhianaaUWInv
import Derived.Test.YtdilndbanhianaaUWInvWords
import Derived.Test.YtdilndbanhianaaUMA
import Derived.Test.YtdilndbanhianaaUMC
import Derived.Test.YtdilndbanhianaaUIter
import Derived.Test.YtdilndbanhianaaUAt
import Derived.Test.YtdilndbanhianaaUColumn
import Derived.Test.YtdilndbanhianaaUPut
import Derived.Test.YtdilndbanhianaaUWWords
section
namespace Go.Proofs.Ytdilndbanhianaa.P
open Go.RowKit Go.Proofs.YtdilndbanhianaaW.PrintWords Go.Proofs.YtdilndbanhianaaW.PrintLast Go.Proofs.YtdilndbanhianaaW.PrintMore
attribute [local go_sem] max2_int min2_int max_two min_two max_three min_three max_four min_four   -- for this text's walks alone
set_option linter.unusedVariables false
set_option linter.unusedSimpArgs false

/-! ### dancestudiolaw24_awake: function 22 -/
def dancestudiolaw24_awake.f (k : Nat)  : Option (Bool) := (dancestudiolaw24_hold.f 0 24).bind fun bt169 => ((dancestudiolaw24_arm.f).bind fun bt176 => ((dancestudiolaw24_turn.f 24).bind fun bt183 => ((some (([(⟨bt169.1, bt169.2.1, bt169.2.2.1, bt169.2.2.2.1, bt169.2.2.2.2.1, bt169.2.2.2.2.2.1, bt169.2.2.2.2.2.2⟩ : S29), (⟨bt176.1, bt176.2.1, bt176.2.2.1, bt176.2.2.2.1, bt176.2.2.2.2.1, bt176.2.2.2.2.2.1, bt176.2.2.2.2.2.2⟩ : S29), (⟨bt183.1, bt183.2.1, bt183.2.2.1, bt183.2.2.2.1, bt183.2.2.2.2.1, bt183.2.2.2.2.2.1, bt183.2.2.2.2.2.2⟩ : S29)] : List (S29)) : List (S29))).bind fun y193 => ((staff_Check.f y193 48).bind fun t196 => (if t196 = 0 then ((staff_Check.f (([(⟨bt176.1, bt176.2.1, bt176.2.2.1, bt176.2.2.2.1, bt176.2.2.2.2.1, bt176.2.2.2.2.2.1, bt176.2.2.2.2.2.2⟩ : S29), (⟨bt169.1, bt169.2.1, bt169.2.2.1, bt169.2.2.2.1, bt169.2.2.2.2.1, bt169.2.2.2.2.2.1, bt169.2.2.2.2.2.2⟩ : S29)] : List (S29))) 48).bind fun t200 => (if t200 = 5 then ((staff_Check.f y193 47).bind fun t201 => (if t201 = 1 then ((dancestudiolaw24_hold.f 23 1).bind fun bt202 => ((staff_Check.f (([(⟨bt169.1, bt169.2.1, bt169.2.2.1, bt169.2.2.2.1, bt169.2.2.2.2.1, bt169.2.2.2.2.2.1, bt169.2.2.2.2.2.2⟩ : S29), (⟨bt202.1, bt202.2.1, bt202.2.2.1, bt202.2.2.2.1, bt202.2.2.2.2.1, bt202.2.2.2.2.2.1, bt202.2.2.2.2.2.2⟩ : S29)] : List (S29))) 48).bind fun t212 => (if t212 = 17 then ((staff_Put.f (([(⟨bt169.1, bt169.2.1, bt169.2.2.1, bt169.2.2.2.1, bt169.2.2.2.2.1, bt169.2.2.2.2.2.1, bt169.2.2.2.2.2.2⟩ : S29), (⟨bt183.1, bt183.2.1, bt183.2.2.1, bt183.2.2.2.1, bt183.2.2.2.2.1, bt183.2.2.2.2.2.1, bt183.2.2.2.2.2.2⟩ : S29)] : List (S29))) 48 bt176.1 bt176.2.1 bt176.2.2.1 bt176.2.2.2.1 bt176.2.2.2.2.1 bt176.2.2.2.2.2.1 bt176.2.2.2.2.2.2).bind fun bt216 => ((staff_Take.f y193 48 5 12).bind fun bt220 => ((staff_Take.f y193 48 5 13).bind fun bt224 => (if bt216.2 = 0 then (if bt220.2 = 0 then (if bt224.2 = 6 then ((dancestudioref24_Same.f k bt216.1 y193).bind fun t228 => (if t228 = true then ((dancestudioref24_Same.f k bt220.1 (([(⟨bt169.1, bt169.2.1, bt169.2.2.1, bt169.2.2.2.1, bt169.2.2.2.2.1, bt169.2.2.2.2.2.1, bt169.2.2.2.2.2.2⟩ : S29), (⟨bt183.1, bt183.2.1, bt183.2.2.1, bt183.2.2.2.1, bt183.2.2.2.2.1, bt183.2.2.2.2.2.1, bt183.2.2.2.2.2.2⟩ : S29)] : List (S29)))).bind fun t232 => (if t232 = true then ((staff_At.f y193 48 5 35).bind fun bt233 => ((staff_At.f y193 48 5 36).bind fun bt235 => ((staff_At.f y193 48 9 0).bind fun bt237 => (if bt233.2 = 0 then (if bt235.2 = 0 then (if bt237.2 = 16 then (if bt233.1 = 1 then (if bt235.1 = (-1) then ((staff_Cut.f (([(⟨bt169.1, bt169.2.1, bt169.2.2.1, bt169.2.2.2.1, bt169.2.2.2.2.1, bt169.2.2.2.2.2.1, bt169.2.2.2.2.2.2⟩ : S29), (⟨bt183.1, bt183.2.1, bt183.2.2.1, bt183.2.2.2.1, bt183.2.2.2.2.1, bt183.2.2.2.2.2.1, bt183.2.2.2.2.2.2⟩ : S29)] : List (S29))) 48 24 48).bind fun bt242 => ((staff_Cut.f y193 48 0 24).bind fun bt246 => ((dancestudiolaw24_turn.f 0).bind fun bt253 => ((staff_Join.f (([(⟨bt169.1, bt169.2.1, bt169.2.2.1, bt169.2.2.2.1, bt169.2.2.2.2.1, bt169.2.2.2.2.2.1, bt169.2.2.2.2.2.2⟩ : S29)] : List (S29))) 24 (([(⟨bt253.1, bt253.2.1, bt253.2.2.1, bt253.2.2.2.1, bt253.2.2.2.2.1, bt253.2.2.2.2.2.1, bt253.2.2.2.2.2.2⟩ : S29)] : List (S29))) 24).bind fun bt263 => ((staff_Column.f y193 48 8).bind fun bt267 => (if bt242.2 = 0 then (if bt246.2 = 17 then (if bt263.2 = 0 then (if bt267.2 = 0 then ((dancestudiolaw24_turn.f 0).bind fun bt271 => ((dancestudioref24_Same.f k bt242.1 (([(⟨bt271.1, bt271.2.1, bt271.2.2.1, bt271.2.2.2.1, bt271.2.2.2.2.1, bt271.2.2.2.2.2.1, bt271.2.2.2.2.2.2⟩ : S29)] : List (S29)))).bind fun t281 => (if t281 = true then ((dancestudioref24_Same.f k bt263.1 (([(⟨bt169.1, bt169.2.1, bt169.2.2.1, bt169.2.2.2.1, bt169.2.2.2.2.1, bt169.2.2.2.2.2.1, bt169.2.2.2.2.2.2⟩ : S29), (⟨bt183.1, bt183.2.1, bt183.2.2.1, bt183.2.2.2.1, bt183.2.2.2.2.1, bt183.2.2.2.2.2.1, bt183.2.2.2.2.2.2⟩ : S29)] : List (S29)))).bind fun t285 => (if t285 = true then ((dancestudioref24_Same.f k bt267.1 (([(⟨bt183.1, bt183.2.1, bt183.2.2.1, bt183.2.2.2.1, bt183.2.2.2.2.1, bt183.2.2.2.2.2.1, bt183.2.2.2.2.2.2⟩ : S29)] : List (S29)))).bind fun t289 => (some t289)) else (none))) else (none)))) else (none)) else (none)) else (none)) else (none))))))) else (none)) else (none)) else (none)) else (none)) else (none))))) else (none))) else (none))) else (none)) else (none)) else (none))))) else (none)))) else (none))) else (none))) else (none))))))
theorem dancestudiolaw24_awake.mono : ∀ k, LeO (dancestudiolaw24_awake.f k ) (dancestudiolaw24_awake.f (k + 1) ) := by
 intro  k
 unfold dancestudiolaw24_awake.f
 repeat' first
   | (with_reducible exact dancestudioref24_Same.mono _ _ _)
   | (with_reducible exact LeO.refl _)
   | (with_reducible exact LeO.none _)
   | (with_reducible refine LeO.ite ?_ ?_)
   | (with_reducible refine LeO.bind ?_ (fun _ => ?_))
   | exact dancestudioref24_Same.mono _ _ _
   | exact LeO.none _
   | refine LeO.ite ?_ ?_
   | refine LeO.bind ?_ (fun _ => ?_)
def dancestudiolaw24_awake.T3 : Bool × List (List Nat × List Nat) := (true, [([], []), ([0], [0]), ([1], [1]), ([2, 1], [2]), ([3], [3]), ([3], [3]), ([4, 5, 3], [3, 4, 5]), ([6, 3, 3], [3, 6]), ([7, 3], [3, 7]), ([3, 8], [3, 8]), ([9, 7], [9]), ([10], [10]), ([11, 10, 10], [10, 11]), ([12, 10], [10, 12]), ([10, 13], [10, 13]), ([14, 12], [14]), ([15], [15]), ([15, 15], [15]), ([16, 17, 15], [15, 16, 17]), ([18, 17, 15], [15, 18]), ([19, 15], [15, 19]), ([15, 20], [15, 20])])
def dancestudiolaw24_awake.B3 : List Nat := [0, 1, 3, 7, 15, 15, 63, 127, 255, 511, 1023, 2047, 4095, 8191, 16383, 32767, 65535, 65535, 262143, 524287, 1048575, 2097151]
theorem dancestudiolaw24_awake.tab3 : rtab .any (opsOf Try.f22 3) = dancestudiolaw24_awake.T3 := by kernel_rfl
theorem dancestudiolaw24_awake.bits3 : waitsOk dancestudiolaw24_awake.T3.2 dancestudiolaw24_awake.B3 = true := by kernel_rfl
def dancestudiolaw24_awake.T17 : Bool × List (List Nat × List Nat) := (true, [([], []), ([0], [0]), ([], []), ([2], [2]), ([1, 3, 2], [1, 3]), ([4], [4]), ([5], [5]), ([5], [5]), ([6, 4, 0, 1, 2, 3, 4, 5, 6], [6]), ([7, 8, 0, 1, 2, 3, 4, 5, 6, 7, 8], [7])])
def dancestudiolaw24_awake.B17 : List Nat := [0, 1, 0, 4, 15, 31, 63, 63, 127, 511]
theorem dancestudiolaw24_awake.tab17 : rtab .any (opsOf Try.f22 17) = dancestudiolaw24_awake.T17 := by kernel_rfl
theorem dancestudiolaw24_awake.bits17 : waitsOk dancestudiolaw24_awake.T17.2 dancestudiolaw24_awake.B17 = true := by kernel_rfl
set_option maxHeartbeats 8000000 in
set_option maxRecDepth 100000 in
theorem dancestudiolaw24_awake.calls (k : Nat)  (r : Bool) (w : World) (h : dancestudiolaw24_awake.f k  = some r) :
  Calls Try.prog 22 #[] w fun e w' => e = .returned (.bool r) ∧ Below w.heap.size w w' := by
 have hu29 := Try.underlying29
 have hu45 := Try.underlying45
 have HB := Aside0.mk (Below.refl w.heap.size w)
 have H : ((dancestudiolaw24_hold.f 0 24).bind fun bt169 => ((dancestudiolaw24_arm.f).bind fun bt176 => ((dancestudiolaw24_turn.f 24).bind fun bt183 => ((some (([(⟨bt169.1, bt169.2.1, bt169.2.2.1, bt169.2.2.2.1, bt169.2.2.2.2.1, bt169.2.2.2.2.2.1, bt169.2.2.2.2.2.2⟩ : S29), (⟨bt176.1, bt176.2.1, bt176.2.2.1, bt176.2.2.2.1, bt176.2.2.2.2.1, bt176.2.2.2.2.2.1, bt176.2.2.2.2.2.2⟩ : S29), (⟨bt183.1, bt183.2.1, bt183.2.2.1, bt183.2.2.2.1, bt183.2.2.2.2.1, bt183.2.2.2.2.2.1, bt183.2.2.2.2.2.2⟩ : S29)] : List (S29)) : List (S29))).bind fun y193 => ((staff_Check.f y193 48).bind fun t196 => (if t196 = 0 then ((staff_Check.f (([(⟨bt176.1, bt176.2.1, bt176.2.2.1, bt176.2.2.2.1, bt176.2.2.2.2.1, bt176.2.2.2.2.2.1, bt176.2.2.2.2.2.2⟩ : S29), (⟨bt169.1, bt169.2.1, bt169.2.2.1, bt169.2.2.2.1, bt169.2.2.2.2.1, bt169.2.2.2.2.2.1, bt169.2.2.2.2.2.2⟩ : S29)] : List (S29))) 48).bind fun t200 => (if t200 = 5 then ((staff_Check.f y193 47).bind fun t201 => (if t201 = 1 then ((dancestudiolaw24_hold.f 23 1).bind fun bt202 => ((staff_Check.f (([(⟨bt169.1, bt169.2.1, bt169.2.2.1, bt169.2.2.2.1, bt169.2.2.2.2.1, bt169.2.2.2.2.2.1, bt169.2.2.2.2.2.2⟩ : S29), (⟨bt202.1, bt202.2.1, bt202.2.2.1, bt202.2.2.2.1, bt202.2.2.2.2.1, bt202.2.2.2.2.2.1, bt202.2.2.2.2.2.2⟩ : S29)] : List (S29))) 48).bind fun t212 => (if t212 = 17 then ((staff_Put.f (([(⟨bt169.1, bt169.2.1, bt169.2.2.1, bt169.2.2.2.1, bt169.2.2.2.2.1, bt169.2.2.2.2.2.1, bt169.2.2.2.2.2.2⟩ : S29), (⟨bt183.1, bt183.2.1, bt183.2.2.1, bt183.2.2.2.1, bt183.2.2.2.2.1, bt183.2.2.2.2.2.1, bt183.2.2.2.2.2.2⟩ : S29)] : List (S29))) 48 bt176.1 bt176.2.1 bt176.2.2.1 bt176.2.2.2.1 bt176.2.2.2.2.1 bt176.2.2.2.2.2.1 bt176.2.2.2.2.2.2).bind fun bt216 => ((staff_Take.f y193 48 5 12).bind fun bt220 => ((staff_Take.f y193 48 5 13).bind fun bt224 => (if bt216.2 = 0 then (if bt220.2 = 0 then (if bt224.2 = 6 then ((dancestudioref24_Same.f k bt216.1 y193).bind fun t228 => (if t228 = true then ((dancestudioref24_Same.f k bt220.1 (([(⟨bt169.1, bt169.2.1, bt169.2.2.1, bt169.2.2.2.1, bt169.2.2.2.2.1, bt169.2.2.2.2.2.1, bt169.2.2.2.2.2.2⟩ : S29), (⟨bt183.1, bt183.2.1, bt183.2.2.1, bt183.2.2.2.1, bt183.2.2.2.2.1, bt183.2.2.2.2.2.1, bt183.2.2.2.2.2.2⟩ : S29)] : List (S29)))).bind fun t232 => (if t232 = true then ((staff_At.f y193 48 5 35).bind fun bt233 => ((staff_At.f y193 48 5 36).bind fun bt235 => ((staff_At.f y193 48 9 0).bind fun bt237 => (if bt233.2 = 0 then (if bt235.2 = 0 then (if bt237.2 = 16 then (if bt233.1 = 1 then (if bt235.1 = (-1) then ((staff_Cut.f (([(⟨bt169.1, bt169.2.1, bt169.2.2.1, bt169.2.2.2.1, bt169.2.2.2.2.1, bt169.2.2.2.2.2.1, bt169.2.2.2.2.2.2⟩ : S29), (⟨bt183.1, bt183.2.1, bt183.2.2.1, bt183.2.2.2.1, bt183.2.2.2.2.1, bt183.2.2.2.2.2.1, bt183.2.2.2.2.2.2⟩ : S29)] : List (S29))) 48 24 48).bind fun bt242 => ((staff_Cut.f y193 48 0 24).bind fun bt246 => ((dancestudiolaw24_turn.f 0).bind fun bt253 => ((staff_Join.f (([(⟨bt169.1, bt169.2.1, bt169.2.2.1, bt169.2.2.2.1, bt169.2.2.2.2.1, bt169.2.2.2.2.2.1, bt169.2.2.2.2.2.2⟩ : S29)] : List (S29))) 24 (([(⟨bt253.1, bt253.2.1, bt253.2.2.1, bt253.2.2.2.1, bt253.2.2.2.2.1, bt253.2.2.2.2.2.1, bt253.2.2.2.2.2.2⟩ : S29)] : List (S29))) 24).bind fun bt263 => ((staff_Column.f y193 48 8).bind fun bt267 => (if bt242.2 = 0 then (if bt246.2 = 17 then (if bt263.2 = 0 then (if bt267.2 = 0 then ((dancestudiolaw24_turn.f 0).bind fun bt271 => ((dancestudioref24_Same.f k bt242.1 (([(⟨bt271.1, bt271.2.1, bt271.2.2.1, bt271.2.2.2.1, bt271.2.2.2.2.1, bt271.2.2.2.2.2.1, bt271.2.2.2.2.2.2⟩ : S29)] : List (S29)))).bind fun t281 => (if t281 = true then ((dancestudioref24_Same.f k bt263.1 (([(⟨bt169.1, bt169.2.1, bt169.2.2.1, bt169.2.2.2.1, bt169.2.2.2.2.1, bt169.2.2.2.2.2.1, bt169.2.2.2.2.2.2⟩ : S29), (⟨bt183.1, bt183.2.1, bt183.2.2.1, bt183.2.2.2.1, bt183.2.2.2.2.1, bt183.2.2.2.2.2.1, bt183.2.2.2.2.2.2⟩ : S29)] : List (S29)))).bind fun t285 => (if t285 = true then ((dancestudioref24_Same.f k bt267.1 (([(⟨bt183.1, bt183.2.1, bt183.2.2.1, bt183.2.2.2.1, bt183.2.2.2.2.1, bt183.2.2.2.2.2.1, bt183.2.2.2.2.2.2⟩ : S29)] : List (S29)))).bind fun t289 => (some t289)) else (none))) else (none)))) else (none)) else (none)) else (none)) else (none))))))) else (none)) else (none)) else (none)) else (none)) else (none))))) else (none))) else (none))) else (none)) else (none)) else (none))))) else (none)))) else (none))) else (none))) else (none))))))) = some r := h
 clear h
 replace H := Option.bind_eq_some_iff.mp H
 obtain ⟨⟨t169, t170, t171, t172, t173, t174, t175⟩, A10, H⟩ := H
 try dsimp only at H
 have A1 := Aside0.mk A10
 clear A10
 replace H := Option.bind_eq_some_iff.mp H
 obtain ⟨⟨t176, t177, t178, t179, t180, t181, t182⟩, A20, H⟩ := H
 try dsimp only at H
 have A2 := Aside0.mk A20
 clear A20
 replace H := Option.bind_eq_some_iff.mp H
 obtain ⟨⟨t183, t184, t185, t186, t187, t188, t189⟩, A30, H⟩ := H
 try dsimp only at H
 have A3 := Aside0.mk A30
 clear A30
 obtain ⟨y193, hy193⟩ : ∃ y_ : List (S29), y_ = (([(⟨t169, t170, t171, t172, t173, t174, t175⟩ : S29), (⟨t176, t177, t178, t179, t180, t181, t182⟩ : S29), (⟨t183, t184, t185, t186, t187, t188, t189⟩ : S29)] : List (S29))) := ⟨_, rfl⟩
 replace H : ((staff_Check.f y193 48).bind fun t196 => (if t196 = 0 then ((staff_Check.f (([(⟨t176, t177, t178, t179, t180, t181, t182⟩ : S29), (⟨t169, t170, t171, t172, t173, t174, t175⟩ : S29)] : List (S29))) 48).bind fun t200 => (if t200 = 5 then ((staff_Check.f y193 47).bind fun t201 => (if t201 = 1 then ((dancestudiolaw24_hold.f 23 1).bind fun bt202 => ((staff_Check.f (([(⟨t169, t170, t171, t172, t173, t174, t175⟩ : S29), (⟨bt202.1, bt202.2.1, bt202.2.2.1, bt202.2.2.2.1, bt202.2.2.2.2.1, bt202.2.2.2.2.2.1, bt202.2.2.2.2.2.2⟩ : S29)] : List (S29))) 48).bind fun t212 => (if t212 = 17 then ((staff_Put.f (([(⟨t169, t170, t171, t172, t173, t174, t175⟩ : S29), (⟨t183, t184, t185, t186, t187, t188, t189⟩ : S29)] : List (S29))) 48 t176 t177 t178 t179 t180 t181 t182).bind fun bt216 => ((staff_Take.f y193 48 5 12).bind fun bt220 => ((staff_Take.f y193 48 5 13).bind fun bt224 => (if bt216.2 = 0 then (if bt220.2 = 0 then (if bt224.2 = 6 then ((dancestudioref24_Same.f k bt216.1 y193).bind fun t228 => (if t228 = true then ((dancestudioref24_Same.f k bt220.1 (([(⟨t169, t170, t171, t172, t173, t174, t175⟩ : S29), (⟨t183, t184, t185, t186, t187, t188, t189⟩ : S29)] : List (S29)))).bind fun t232 => (if t232 = true then ((staff_At.f y193 48 5 35).bind fun bt233 => ((staff_At.f y193 48 5 36).bind fun bt235 => ((staff_At.f y193 48 9 0).bind fun bt237 => (if bt233.2 = 0 then (if bt235.2 = 0 then (if bt237.2 = 16 then (if bt233.1 = 1 then (if bt235.1 = (-1) then ((staff_Cut.f (([(⟨t169, t170, t171, t172, t173, t174, t175⟩ : S29), (⟨t183, t184, t185, t186, t187, t188, t189⟩ : S29)] : List (S29))) 48 24 48).bind fun bt242 => ((staff_Cut.f y193 48 0 24).bind fun bt246 => ((dancestudiolaw24_turn.f 0).bind fun bt253 => ((staff_Join.f (([(⟨t169, t170, t171, t172, t173, t174, t175⟩ : S29)] : List (S29))) 24 (([(⟨bt253.1, bt253.2.1, bt253.2.2.1, bt253.2.2.2.1, bt253.2.2.2.2.1, bt253.2.2.2.2.2.1, bt253.2.2.2.2.2.2⟩ : S29)] : List (S29))) 24).bind fun bt263 => ((staff_Column.f y193 48 8).bind fun bt267 => (if bt242.2 = 0 then (if bt246.2 = 17 then (if bt263.2 = 0 then (if bt267.2 = 0 then ((dancestudiolaw24_turn.f 0).bind fun bt271 => ((dancestudioref24_Same.f k bt242.1 (([(⟨bt271.1, bt271.2.1, bt271.2.2.1, bt271.2.2.2.1, bt271.2.2.2.2.1, bt271.2.2.2.2.2.1, bt271.2.2.2.2.2.2⟩ : S29)] : List (S29)))).bind fun t281 => (if t281 = true then ((dancestudioref24_Same.f k bt263.1 (([(⟨t169, t170, t171, t172, t173, t174, t175⟩ : S29), (⟨t183, t184, t185, t186, t187, t188, t189⟩ : S29)] : List (S29)))).bind fun t285 => (if t285 = true then ((dancestudioref24_Same.f k bt267.1 (([(⟨t183, t184, t185, t186, t187, t188, t189⟩ : S29)] : List (S29)))).bind fun t289 => (some t289)) else (none))) else (none)))) else (none)) else (none)) else (none)) else (none))))))) else (none)) else (none)) else (none)) else (none)) else (none))))) else (none))) else (none))) else (none)) else (none)) else (none))))) else (none)))) else (none))) else (none))) else (none))) = some r := by first | (rw [hy193]; with_reducible exact H) | (have H2_ := (Option.bind_some _ _).symm.trans H; rw [hy193]; with_reducible exact H2_) | (have H2_ := (Option.bind_some _ _).symm.trans H; with_reducible exact H2_) | with_reducible exact H | (rw [hy193]; exact H) | exact H
 have Ny193 := Aside0.mk hy193
 clear hy193
 replace H := Option.bind_eq_some_iff.mp H
 obtain ⟨t196, A40, H⟩ := H
 try dsimp only at H
 have A4 := Aside0.mk A40
 clear A40
 by_cases c5 : t196 = 0
 ·rw [if_pos c5] at H
  have c5b0 : (t196 == 0) = true := beq_iff_eq.mpr c5
  have c5b1 : (t196 != 0) = false := bne_eq_false_iff_eq.mpr c5
  clear c5
  obtain ⟨y197, hy197⟩ : ∃ y_ : List (S29), y_ = (([(⟨t176, t177, t178, t179, t180, t181, t182⟩ : S29), (⟨t169, t170, t171, t172, t173, t174, t175⟩ : S29)] : List (S29))) := ⟨_, rfl⟩
  replace H : ((staff_Check.f y197 48).bind fun t200 => (if t200 = 5 then ((staff_Check.f y193 47).bind fun t201 => (if t201 = 1 then ((dancestudiolaw24_hold.f 23 1).bind fun bt202 => ((staff_Check.f (([(⟨t169, t170, t171, t172, t173, t174, t175⟩ : S29), (⟨bt202.1, bt202.2.1, bt202.2.2.1, bt202.2.2.2.1, bt202.2.2.2.2.1, bt202.2.2.2.2.2.1, bt202.2.2.2.2.2.2⟩ : S29)] : List (S29))) 48).bind fun t212 => (if t212 = 17 then ((staff_Put.f (([(⟨t169, t170, t171, t172, t173, t174, t175⟩ : S29), (⟨t183, t184, t185, t186, t187, t188, t189⟩ : S29)] : List (S29))) 48 t176 t177 t178 t179 t180 t181 t182).bind fun bt216 => ((staff_Take.f y193 48 5 12).bind fun bt220 => ((staff_Take.f y193 48 5 13).bind fun bt224 => (if bt216.2 = 0 then (if bt220.2 = 0 then (if bt224.2 = 6 then ((dancestudioref24_Same.f k bt216.1 y193).bind fun t228 => (if t228 = true then ((dancestudioref24_Same.f k bt220.1 (([(⟨t169, t170, t171, t172, t173, t174, t175⟩ : S29), (⟨t183, t184, t185, t186, t187, t188, t189⟩ : S29)] : List (S29)))).bind fun t232 => (if t232 = true then ((staff_At.f y193 48 5 35).bind fun bt233 => ((staff_At.f y193 48 5 36).bind fun bt235 => ((staff_At.f y193 48 9 0).bind fun bt237 => (if bt233.2 = 0 then (if bt235.2 = 0 then (if bt237.2 = 16 then (if bt233.1 = 1 then (if bt235.1 = (-1) then ((staff_Cut.f (([(⟨t169, t170, t171, t172, t173, t174, t175⟩ : S29), (⟨t183, t184, t185, t186, t187, t188, t189⟩ : S29)] : List (S29))) 48 24 48).bind fun bt242 => ((staff_Cut.f y193 48 0 24).bind fun bt246 => ((dancestudiolaw24_turn.f 0).bind fun bt253 => ((staff_Join.f (([(⟨t169, t170, t171, t172, t173, t174, t175⟩ : S29)] : List (S29))) 24 (([(⟨bt253.1, bt253.2.1, bt253.2.2.1, bt253.2.2.2.1, bt253.2.2.2.2.1, bt253.2.2.2.2.2.1, bt253.2.2.2.2.2.2⟩ : S29)] : List (S29))) 24).bind fun bt263 => ((staff_Column.f y193 48 8).bind fun bt267 => (if bt242.2 = 0 then (if bt246.2 = 17 then (if bt263.2 = 0 then (if bt267.2 = 0 then ((dancestudiolaw24_turn.f 0).bind fun bt271 => ((dancestudioref24_Same.f k bt242.1 (([(⟨bt271.1, bt271.2.1, bt271.2.2.1, bt271.2.2.2.1, bt271.2.2.2.2.1, bt271.2.2.2.2.2.1, bt271.2.2.2.2.2.2⟩ : S29)] : List (S29)))).bind fun t281 => (if t281 = true then ((dancestudioref24_Same.f k bt263.1 (([(⟨t169, t170, t171, t172, t173, t174, t175⟩ : S29), (⟨t183, t184, t185, t186, t187, t188, t189⟩ : S29)] : List (S29)))).bind fun t285 => (if t285 = true then ((dancestudioref24_Same.f k bt267.1 (([(⟨t183, t184, t185, t186, t187, t188, t189⟩ : S29)] : List (S29)))).bind fun t289 => (some t289)) else (none))) else (none)))) else (none)) else (none)) else (none)) else (none))))))) else (none)) else (none)) else (none)) else (none)) else (none))))) else (none))) else (none))) else (none)) else (none)) else (none))))) else (none)))) else (none))) else (none))) = some r := by first | (rw [hy197]; with_reducible exact H) | (have H2_ := (Option.bind_some _ _).symm.trans H; rw [hy197]; with_reducible exact H2_) | (have H2_ := (Option.bind_some _ _).symm.trans H; with_reducible exact H2_) | with_reducible exact H | (rw [hy197]; exact H) | exact H
  have Ny197 := Aside0.mk hy197
  clear hy197
  replace H := Option.bind_eq_some_iff.mp H
  obtain ⟨t200, A60, H⟩ := H
  try dsimp only at H
  have A6 := Aside0.mk A60
  clear A60
  by_cases c7 : t200 = 5
  ·rw [if_pos c7] at H
   have c7b0 : (t200 == 5) = true := beq_iff_eq.mpr c7
   have c7b1 : (t200 != 5) = false := bne_eq_false_iff_eq.mpr c7
   clear c7
   replace H := Option.bind_eq_some_iff.mp H
   obtain ⟨t201, A80, H⟩ := H
   try dsimp only at H
   have A8 := Aside0.mk A80
   clear A80
   by_cases c9 : t201 = 1
   ·rw [if_pos c9] at H
    have c9b0 : (t201 == 1) = true := beq_iff_eq.mpr c9
    have c9b1 : (t201 != 1) = false := bne_eq_false_iff_eq.mpr c9
    clear c9
    replace H := Option.bind_eq_some_iff.mp H
    obtain ⟨⟨t202, t203, t204, t205, t206, t207, t208⟩, A100, H⟩ := H
    try dsimp only at H
    have A10 := Aside0.mk A100
    clear A100
    obtain ⟨y209, hy209⟩ : ∃ y_ : List (S29), y_ = (([(⟨t169, t170, t171, t172, t173, t174, t175⟩ : S29), (⟨t202, t203, t204, t205, t206, t207, t208⟩ : S29)] : List (S29))) := ⟨_, rfl⟩
    replace H : ((staff_Check.f y209 48).bind fun t212 => (if t212 = 17 then ((staff_Put.f (([(⟨t169, t170, t171, t172, t173, t174, t175⟩ : S29), (⟨t183, t184, t185, t186, t187, t188, t189⟩ : S29)] : List (S29))) 48 t176 t177 t178 t179 t180 t181 t182).bind fun bt216 => ((staff_Take.f y193 48 5 12).bind fun bt220 => ((staff_Take.f y193 48 5 13).bind fun bt224 => (if bt216.2 = 0 then (if bt220.2 = 0 then (if bt224.2 = 6 then ((dancestudioref24_Same.f k bt216.1 y193).bind fun t228 => (if t228 = true then ((dancestudioref24_Same.f k bt220.1 (([(⟨t169, t170, t171, t172, t173, t174, t175⟩ : S29), (⟨t183, t184, t185, t186, t187, t188, t189⟩ : S29)] : List (S29)))).bind fun t232 => (if t232 = true then ((staff_At.f y193 48 5 35).bind fun bt233 => ((staff_At.f y193 48 5 36).bind fun bt235 => ((staff_At.f y193 48 9 0).bind fun bt237 => (if bt233.2 = 0 then (if bt235.2 = 0 then (if bt237.2 = 16 then (if bt233.1 = 1 then (if bt235.1 = (-1) then ((staff_Cut.f (([(⟨t169, t170, t171, t172, t173, t174, t175⟩ : S29), (⟨t183, t184, t185, t186, t187, t188, t189⟩ : S29)] : List (S29))) 48 24 48).bind fun bt242 => ((staff_Cut.f y193 48 0 24).bind fun bt246 => ((dancestudiolaw24_turn.f 0).bind fun bt253 => ((staff_Join.f (([(⟨t169, t170, t171, t172, t173, t174, t175⟩ : S29)] : List (S29))) 24 (([(⟨bt253.1, bt253.2.1, bt253.2.2.1, bt253.2.2.2.1, bt253.2.2.2.2.1, bt253.2.2.2.2.2.1, bt253.2.2.2.2.2.2⟩ : S29)] : List (S29))) 24).bind fun bt263 => ((staff_Column.f y193 48 8).bind fun bt267 => (if bt242.2 = 0 then (if bt246.2 = 17 then (if bt263.2 = 0 then (if bt267.2 = 0 then ((dancestudiolaw24_turn.f 0).bind fun bt271 => ((dancestudioref24_Same.f k bt242.1 (([(⟨bt271.1, bt271.2.1, bt271.2.2.1, bt271.2.2.2.1, bt271.2.2.2.2.1, bt271.2.2.2.2.2.1, bt271.2.2.2.2.2.2⟩ : S29)] : List (S29)))).bind fun t281 => (if t281 = true then ((dancestudioref24_Same.f k bt263.1 (([(⟨t169, t170, t171, t172, t173, t174, t175⟩ : S29), (⟨t183, t184, t185, t186, t187, t188, t189⟩ : S29)] : List (S29)))).bind fun t285 => (if t285 = true then ((dancestudioref24_Same.f k bt267.1 (([(⟨t183, t184, t185, t186, t187, t188, t189⟩ : S29)] : List (S29)))).bind fun t289 => (some t289)) else (none))) else (none)))) else (none)) else (none)) else (none)) else (none))))))) else (none)) else (none)) else (none)) else (none)) else (none))))) else (none))) else (none))) else (none)) else (none)) else (none))))) else (none))) = some r := by first | (rw [hy209]; with_reducible exact H) | (have H2_ := (Option.bind_some _ _).symm.trans H; rw [hy209]; with_reducible exact H2_) | (have H2_ := (Option.bind_some _ _).symm.trans H; with_reducible exact H2_) | with_reducible exact H | (rw [hy209]; exact H) | exact H
    have Ny209 := Aside0.mk hy209
    clear hy209
    replace H := Option.bind_eq_some_iff.mp H
    obtain ⟨t212, A110, H⟩ := H
    try dsimp only at H
    have A11 := Aside0.mk A110
    clear A110
    by_cases c12 : t212 = 17
    ·rw [if_pos c12] at H
     have c12b0 : (t212 == 17) = true := beq_iff_eq.mpr c12
     have c12b1 : (t212 != 17) = false := bne_eq_false_iff_eq.mpr c12
     clear c12
     obtain ⟨y213, hy213⟩ : ∃ y_ : List (S29), y_ = (([(⟨t169, t170, t171, t172, t173, t174, t175⟩ : S29), (⟨t183, t184, t185, t186, t187, t188, t189⟩ : S29)] : List (S29))) := ⟨_, rfl⟩
     replace H : ((staff_Put.f y213 48 t176 t177 t178 t179 t180 t181 t182).bind fun bt216 => ((staff_Take.f y193 48 5 12).bind fun bt220 => ((staff_Take.f y193 48 5 13).bind fun bt224 => (if bt216.2 = 0 then (if bt220.2 = 0 then (if bt224.2 = 6 then ((dancestudioref24_Same.f k bt216.1 y193).bind fun t228 => (if t228 = true then ((dancestudioref24_Same.f k bt220.1 (([(⟨t169, t170, t171, t172, t173, t174, t175⟩ : S29), (⟨t183, t184, t185, t186, t187, t188, t189⟩ : S29)] : List (S29)))).bind fun t232 => (if t232 = true then ((staff_At.f y193 48 5 35).bind fun bt233 => ((staff_At.f y193 48 5 36).bind fun bt235 => ((staff_At.f y193 48 9 0).bind fun bt237 => (if bt233.2 = 0 then (if bt235.2 = 0 then (if bt237.2 = 16 then (if bt233.1 = 1 then (if bt235.1 = (-1) then ((staff_Cut.f (([(⟨t169, t170, t171, t172, t173, t174, t175⟩ : S29), (⟨t183, t184, t185, t186, t187, t188, t189⟩ : S29)] : List (S29))) 48 24 48).bind fun bt242 => ((staff_Cut.f y193 48 0 24).bind fun bt246 => ((dancestudiolaw24_turn.f 0).bind fun bt253 => ((staff_Join.f (([(⟨t169, t170, t171, t172, t173, t174, t175⟩ : S29)] : List (S29))) 24 (([(⟨bt253.1, bt253.2.1, bt253.2.2.1, bt253.2.2.2.1, bt253.2.2.2.2.1, bt253.2.2.2.2.2.1, bt253.2.2.2.2.2.2⟩ : S29)] : List (S29))) 24).bind fun bt263 => ((staff_Column.f y193 48 8).bind fun bt267 => (if bt242.2 = 0 then (if bt246.2 = 17 then (if bt263.2 = 0 then (if bt267.2 = 0 then ((dancestudiolaw24_turn.f 0).bind fun bt271 => ((dancestudioref24_Same.f k bt242.1 (([(⟨bt271.1, bt271.2.1, bt271.2.2.1, bt271.2.2.2.1, bt271.2.2.2.2.1, bt271.2.2.2.2.2.1, bt271.2.2.2.2.2.2⟩ : S29)] : List (S29)))).bind fun t281 => (if t281 = true then ((dancestudioref24_Same.f k bt263.1 (([(⟨t169, t170, t171, t172, t173, t174, t175⟩ : S29), (⟨t183, t184, t185, t186, t187, t188, t189⟩ : S29)] : List (S29)))).bind fun t285 => (if t285 = true then ((dancestudioref24_Same.f k bt267.1 (([(⟨t183, t184, t185, t186, t187, t188, t189⟩ : S29)] : List (S29)))).bind fun t289 => (some t289)) else (none))) else (none)))) else (none)) else (none)) else (none)) else (none))))))) else (none)) else (none)) else (none)) else (none)) else (none))))) else (none))) else (none))) else (none)) else (none)) else (none))))) = some r := by first | (rw [hy213]; with_reducible exact H) | (have H2_ := (Option.bind_some _ _).symm.trans H; rw [hy213]; with_reducible exact H2_) | (have H2_ := (Option.bind_some _ _).symm.trans H; with_reducible exact H2_) | with_reducible exact H | (rw [hy213]; exact H) | exact H
     have Ny213 := Aside0.mk hy213
     clear hy213
     replace H := Option.bind_eq_some_iff.mp H
     obtain ⟨⟨t216, t219⟩, A130, H⟩ := H
     try dsimp only at H
     have A13 := Aside0.mk A130
     clear A130
     replace H := Option.bind_eq_some_iff.mp H
     obtain ⟨⟨t220, t221⟩, A140, H⟩ := H
     try dsimp only at H
     have A14 := Aside0.mk A140
     clear A140
     replace H := Option.bind_eq_some_iff.mp H
     obtain ⟨⟨t224, t225⟩, A150, H⟩ := H
     try dsimp only at H
     have A15 := Aside0.mk A150
     clear A150
     by_cases c16 : t219 = 0
     ·rw [if_pos c16] at H
      have c16b0 : (t219 == 0) = true := beq_iff_eq.mpr c16
      have c16b1 : (t219 != 0) = false := bne_eq_false_iff_eq.mpr c16
      clear c16
      by_cases c17 : t221 = 0
      ·rw [if_pos c17] at H
       have c17b0 : (t221 == 0) = true := beq_iff_eq.mpr c17
       have c17b1 : (t221 != 0) = false := bne_eq_false_iff_eq.mpr c17
       clear c17
       by_cases c18 : t225 = 6
       ·rw [if_pos c18] at H
        have c18b0 : (t225 == 6) = true := beq_iff_eq.mpr c18
        have c18b1 : (t225 != 6) = false := bne_eq_false_iff_eq.mpr c18
        clear c18
        replace H := Option.bind_eq_some_iff.mp H
        obtain ⟨t228, A190, H⟩ := H
        try dsimp only at H
        have A19 := Aside0.mk A190
        clear A190
        by_cases c20 : t228 = true
        ·subst c20
         rw [if_pos rfl] at H
         obtain ⟨y229, hy229⟩ : ∃ y_ : List (S29), y_ = (([(⟨t169, t170, t171, t172, t173, t174, t175⟩ : S29), (⟨t183, t184, t185, t186, t187, t188, t189⟩ : S29)] : List (S29))) := ⟨_, rfl⟩
         replace H : ((dancestudioref24_Same.f k t220 y229).bind fun t232 => (if t232 = true then ((staff_At.f y193 48 5 35).bind fun bt233 => ((staff_At.f y193 48 5 36).bind fun bt235 => ((staff_At.f y193 48 9 0).bind fun bt237 => (if bt233.2 = 0 then (if bt235.2 = 0 then (if bt237.2 = 16 then (if bt233.1 = 1 then (if bt235.1 = (-1) then ((staff_Cut.f (([(⟨t169, t170, t171, t172, t173, t174, t175⟩ : S29), (⟨t183, t184, t185, t186, t187, t188, t189⟩ : S29)] : List (S29))) 48 24 48).bind fun bt242 => ((staff_Cut.f y193 48 0 24).bind fun bt246 => ((dancestudiolaw24_turn.f 0).bind fun bt253 => ((staff_Join.f (([(⟨t169, t170, t171, t172, t173, t174, t175⟩ : S29)] : List (S29))) 24 (([(⟨bt253.1, bt253.2.1, bt253.2.2.1, bt253.2.2.2.1, bt253.2.2.2.2.1, bt253.2.2.2.2.2.1, bt253.2.2.2.2.2.2⟩ : S29)] : List (S29))) 24).bind fun bt263 => ((staff_Column.f y193 48 8).bind fun bt267 => (if bt242.2 = 0 then (if bt246.2 = 17 then (if bt263.2 = 0 then (if bt267.2 = 0 then ((dancestudiolaw24_turn.f 0).bind fun bt271 => ((dancestudioref24_Same.f k bt242.1 (([(⟨bt271.1, bt271.2.1, bt271.2.2.1, bt271.2.2.2.1, bt271.2.2.2.2.1, bt271.2.2.2.2.2.1, bt271.2.2.2.2.2.2⟩ : S29)] : List (S29)))).bind fun t281 => (if t281 = true then ((dancestudioref24_Same.f k bt263.1 (([(⟨t169, t170, t171, t172, t173, t174, t175⟩ : S29), (⟨t183, t184, t185, t186, t187, t188, t189⟩ : S29)] : List (S29)))).bind fun t285 => (if t285 = true then ((dancestudioref24_Same.f k bt267.1 (([(⟨t183, t184, t185, t186, t187, t188, t189⟩ : S29)] : List (S29)))).bind fun t289 => (some t289)) else (none))) else (none)))) else (none)) else (none)) else (none)) else (none))))))) else (none)) else (none)) else (none)) else (none)) else (none))))) else (none))) = some r := by first | (rw [hy229]; with_reducible exact H) | (have H2_ := (Option.bind_some _ _).symm.trans H; rw [hy229]; with_reducible exact H2_) | (have H2_ := (Option.bind_some _ _).symm.trans H; with_reducible exact H2_) | with_reducible exact H | (rw [hy229]; exact H) | exact H
         have Ny229 := Aside0.mk hy229
         clear hy229
         replace H := Option.bind_eq_some_iff.mp H
         obtain ⟨t232, A210, H⟩ := H
         try dsimp only at H
         have A21 := Aside0.mk A210
         clear A210
         by_cases c22 : t232 = true
         ·subst c22
          rw [if_pos rfl] at H
          replace H := Option.bind_eq_some_iff.mp H
          obtain ⟨⟨t233, t234⟩, A230, H⟩ := H
          try dsimp only at H
          have A23 := Aside0.mk A230
          clear A230
          replace H := Option.bind_eq_some_iff.mp H
          obtain ⟨⟨t235, t236⟩, A240, H⟩ := H
          try dsimp only at H
          have A24 := Aside0.mk A240
          clear A240
          replace H := Option.bind_eq_some_iff.mp H
          obtain ⟨⟨t237, t238⟩, A250, H⟩ := H
          try dsimp only at H
          have A25 := Aside0.mk A250
          clear A250
          by_cases c26 : t234 = 0
          ·rw [if_pos c26] at H
           have c26b0 : (t234 == 0) = true := beq_iff_eq.mpr c26
           have c26b1 : (t234 != 0) = false := bne_eq_false_iff_eq.mpr c26
           clear c26
           by_cases c27 : t236 = 0
           ·rw [if_pos c27] at H
            have c27b0 : (t236 == 0) = true := beq_iff_eq.mpr c27
            have c27b1 : (t236 != 0) = false := bne_eq_false_iff_eq.mpr c27
            clear c27
            by_cases c28 : t238 = 16
            ·rw [if_pos c28] at H
             have c28b0 : (t238 == 16) = true := beq_iff_eq.mpr c28
             have c28b1 : (t238 != 16) = false := bne_eq_false_iff_eq.mpr c28
             clear c28
             by_cases c29 : t233 = 1
             ·rw [if_pos c29] at H
              have c29b0 : (t233 == 1) = true := beq_iff_eq.mpr c29
              have c29b1 : (t233 != 1) = false := bne_eq_false_iff_eq.mpr c29
              clear c29
              by_cases c30 : t235 = (-1)
              ·rw [if_pos c30] at H
               have c30b0 : (t235 == (-1)) = true := beq_iff_eq.mpr c30
               have c30b1 : (t235 != (-1)) = false := bne_eq_false_iff_eq.mpr c30
               clear c30
               obtain ⟨y239, hy239⟩ : ∃ y_ : List (S29), y_ = (([(⟨t169, t170, t171, t172, t173, t174, t175⟩ : S29), (⟨t183, t184, t185, t186, t187, t188, t189⟩ : S29)] : List (S29))) := ⟨_, rfl⟩
               replace H : ((staff_Cut.f y239 48 24 48).bind fun bt242 => ((staff_Cut.f y193 48 0 24).bind fun bt246 => ((dancestudiolaw24_turn.f 0).bind fun bt253 => ((staff_Join.f (([(⟨t169, t170, t171, t172, t173, t174, t175⟩ : S29)] : List (S29))) 24 (([(⟨bt253.1, bt253.2.1, bt253.2.2.1, bt253.2.2.2.1, bt253.2.2.2.2.1, bt253.2.2.2.2.2.1, bt253.2.2.2.2.2.2⟩ : S29)] : List (S29))) 24).bind fun bt263 => ((staff_Column.f y193 48 8).bind fun bt267 => (if bt242.2 = 0 then (if bt246.2 = 17 then (if bt263.2 = 0 then (if bt267.2 = 0 then ((dancestudiolaw24_turn.f 0).bind fun bt271 => ((dancestudioref24_Same.f k bt242.1 (([(⟨bt271.1, bt271.2.1, bt271.2.2.1, bt271.2.2.2.1, bt271.2.2.2.2.1, bt271.2.2.2.2.2.1, bt271.2.2.2.2.2.2⟩ : S29)] : List (S29)))).bind fun t281 => (if t281 = true then ((dancestudioref24_Same.f k bt263.1 (([(⟨t169, t170, t171, t172, t173, t174, t175⟩ : S29), (⟨t183, t184, t185, t186, t187, t188, t189⟩ : S29)] : List (S29)))).bind fun t285 => (if t285 = true then ((dancestudioref24_Same.f k bt267.1 (([(⟨t183, t184, t185, t186, t187, t188, t189⟩ : S29)] : List (S29)))).bind fun t289 => (some t289)) else (none))) else (none)))) else (none)) else (none)) else (none)) else (none))))))) = some r := by first | (rw [hy239]; with_reducible exact H) | (have H2_ := (Option.bind_some _ _).symm.trans H; rw [hy239]; with_reducible exact H2_) | (have H2_ := (Option.bind_some _ _).symm.trans H; with_reducible exact H2_) | with_reducible exact H | (rw [hy239]; exact H) | exact H
               have Ny239 := Aside0.mk hy239
               clear hy239
               replace H := Option.bind_eq_some_iff.mp H
               obtain ⟨⟨t242, t245⟩, A310, H⟩ := H
               try dsimp only at H
               have A31 := Aside0.mk A310
               clear A310
               replace H := Option.bind_eq_some_iff.mp H
               obtain ⟨⟨t246, t249⟩, A320, H⟩ := H
               try dsimp only at H
               have A32 := Aside0.mk A320
               clear A320
               obtain ⟨y250, hy250⟩ : ∃ y_ : List (S29), y_ = (([(⟨t169, t170, t171, t172, t173, t174, t175⟩ : S29)] : List (S29))) := ⟨_, rfl⟩
               replace H : ((dancestudiolaw24_turn.f 0).bind fun bt253 => ((staff_Join.f y250 24 (([(⟨bt253.1, bt253.2.1, bt253.2.2.1, bt253.2.2.2.1, bt253.2.2.2.2.1, bt253.2.2.2.2.2.1, bt253.2.2.2.2.2.2⟩ : S29)] : List (S29))) 24).bind fun bt263 => ((staff_Column.f y193 48 8).bind fun bt267 => (if t245 = 0 then (if t249 = 17 then (if bt263.2 = 0 then (if bt267.2 = 0 then ((dancestudiolaw24_turn.f 0).bind fun bt271 => ((dancestudioref24_Same.f k t242 (([(⟨bt271.1, bt271.2.1, bt271.2.2.1, bt271.2.2.2.1, bt271.2.2.2.2.1, bt271.2.2.2.2.2.1, bt271.2.2.2.2.2.2⟩ : S29)] : List (S29)))).bind fun t281 => (if t281 = true then ((dancestudioref24_Same.f k bt263.1 (([(⟨t169, t170, t171, t172, t173, t174, t175⟩ : S29), (⟨t183, t184, t185, t186, t187, t188, t189⟩ : S29)] : List (S29)))).bind fun t285 => (if t285 = true then ((dancestudioref24_Same.f k bt267.1 (([(⟨t183, t184, t185, t186, t187, t188, t189⟩ : S29)] : List (S29)))).bind fun t289 => (some t289)) else (none))) else (none)))) else (none)) else (none)) else (none)) else (none))))) = some r := by first | (rw [hy250]; with_reducible exact H) | (have H2_ := (Option.bind_some _ _).symm.trans H; rw [hy250]; with_reducible exact H2_) | (have H2_ := (Option.bind_some _ _).symm.trans H; with_reducible exact H2_) | with_reducible exact H | (rw [hy250]; exact H) | exact H
               have Ny250 := Aside0.mk hy250
               clear hy250
               replace H := Option.bind_eq_some_iff.mp H
               obtain ⟨⟨t253, t254, t255, t256, t257, t258, t259⟩, A330, H⟩ := H
               try dsimp only at H
               have A33 := Aside0.mk A330
               clear A330
               obtain ⟨y260, hy260⟩ : ∃ y_ : List (S29), y_ = (([(⟨t253, t254, t255, t256, t257, t258, t259⟩ : S29)] : List (S29))) := ⟨_, rfl⟩
               replace H : ((staff_Join.f y250 24 y260 24).bind fun bt263 => ((staff_Column.f y193 48 8).bind fun bt267 => (if t245 = 0 then (if t249 = 17 then (if bt263.2 = 0 then (if bt267.2 = 0 then ((dancestudiolaw24_turn.f 0).bind fun bt271 => ((dancestudioref24_Same.f k t242 (([(⟨bt271.1, bt271.2.1, bt271.2.2.1, bt271.2.2.2.1, bt271.2.2.2.2.1, bt271.2.2.2.2.2.1, bt271.2.2.2.2.2.2⟩ : S29)] : List (S29)))).bind fun t281 => (if t281 = true then ((dancestudioref24_Same.f k bt263.1 (([(⟨t169, t170, t171, t172, t173, t174, t175⟩ : S29), (⟨t183, t184, t185, t186, t187, t188, t189⟩ : S29)] : List (S29)))).bind fun t285 => (if t285 = true then ((dancestudioref24_Same.f k bt267.1 (([(⟨t183, t184, t185, t186, t187, t188, t189⟩ : S29)] : List (S29)))).bind fun t289 => (some t289)) else (none))) else (none)))) else (none)) else (none)) else (none)) else (none)))) = some r := by first | (rw [hy260]; with_reducible exact H) | (have H2_ := (Option.bind_some _ _).symm.trans H; rw [hy260]; with_reducible exact H2_) | (have H2_ := (Option.bind_some _ _).symm.trans H; with_reducible exact H2_) | with_reducible exact H | (rw [hy260]; exact H) | exact H
               have Ny260 := Aside0.mk hy260
               clear hy260
               replace H := Option.bind_eq_some_iff.mp H
               obtain ⟨⟨t263, t264⟩, A340, H⟩ := H
               try dsimp only at H
               have A34 := Aside0.mk A340
               clear A340
               replace H := Option.bind_eq_some_iff.mp H
               obtain ⟨⟨t267, t268⟩, A350, H⟩ := H
               try dsimp only at H
               have A35 := Aside0.mk A350
               clear A350
               by_cases c36 : t245 = 0
               ·rw [if_pos c36] at H
                have c36b0 : (t245 == 0) = true := beq_iff_eq.mpr c36
                have c36b1 : (t245 != 0) = false := bne_eq_false_iff_eq.mpr c36
                clear c36
                by_cases c37 : t249 = 17
                ·rw [if_pos c37] at H
                 have c37b0 : (t249 == 17) = true := beq_iff_eq.mpr c37
                 have c37b1 : (t249 != 17) = false := bne_eq_false_iff_eq.mpr c37
                 clear c37
                 by_cases c38 : t264 = 0
                 ·rw [if_pos c38] at H
                  have c38b0 : (t264 == 0) = true := beq_iff_eq.mpr c38
                  have c38b1 : (t264 != 0) = false := bne_eq_false_iff_eq.mpr c38
                  clear c38
                  by_cases c39 : t268 = 0
                  ·rw [if_pos c39] at H
                   have c39b0 : (t268 == 0) = true := beq_iff_eq.mpr c39
                   have c39b1 : (t268 != 0) = false := bne_eq_false_iff_eq.mpr c39
                   clear c39
                   replace H := Option.bind_eq_some_iff.mp H
                   obtain ⟨⟨t271, t272, t273, t274, t275, t276, t277⟩, A400, H⟩ := H
                   try dsimp only at H
                   have A40 := Aside0.mk A400
                   clear A400
                   obtain ⟨y278, hy278⟩ : ∃ y_ : List (S29), y_ = (([(⟨t271, t272, t273, t274, t275, t276, t277⟩ : S29)] : List (S29))) := ⟨_, rfl⟩
                   replace H : ((dancestudioref24_Same.f k t242 y278).bind fun t281 => (if t281 = true then ((dancestudioref24_Same.f k t263 (([(⟨t169, t170, t171, t172, t173, t174, t175⟩ : S29), (⟨t183, t184, t185, t186, t187, t188, t189⟩ : S29)] : List (S29)))).bind fun t285 => (if t285 = true then ((dancestudioref24_Same.f k t267 (([(⟨t183, t184, t185, t186, t187, t188, t189⟩ : S29)] : List (S29)))).bind fun t289 => (some t289)) else (none))) else (none))) = some r := by first | (rw [hy278]; with_reducible exact H) | (have H2_ := (Option.bind_some _ _).symm.trans H; rw [hy278]; with_reducible exact H2_) | (have H2_ := (Option.bind_some _ _).symm.trans H; with_reducible exact H2_) | with_reducible exact H | (rw [hy278]; exact H) | exact H
                   have Ny278 := Aside0.mk hy278
                   clear hy278
                   replace H := Option.bind_eq_some_iff.mp H
                   obtain ⟨t281, A410, H⟩ := H
                   try dsimp only at H
                   have A41 := Aside0.mk A410
                   clear A410
                   by_cases c42 : t281 = true
                   ·subst c42
                    rw [if_pos rfl] at H
                    obtain ⟨y282, hy282⟩ : ∃ y_ : List (S29), y_ = (([(⟨t169, t170, t171, t172, t173, t174, t175⟩ : S29), (⟨t183, t184, t185, t186, t187, t188, t189⟩ : S29)] : List (S29))) := ⟨_, rfl⟩
                    replace H : ((dancestudioref24_Same.f k t263 y282).bind fun t285 => (if t285 = true then ((dancestudioref24_Same.f k t267 (([(⟨t183, t184, t185, t186, t187, t188, t189⟩ : S29)] : List (S29)))).bind fun t289 => (some t289)) else (none))) = some r := by first | (rw [hy282]; with_reducible exact H) | (have H2_ := (Option.bind_some _ _).symm.trans H; rw [hy282]; with_reducible exact H2_) | (have H2_ := (Option.bind_some _ _).symm.trans H; with_reducible exact H2_) | with_reducible exact H | (rw [hy282]; exact H) | exact H
                    have Ny282 := Aside0.mk hy282
                    clear hy282
                    replace H := Option.bind_eq_some_iff.mp H
                    obtain ⟨t285, A430, H⟩ := H
                    try dsimp only at H
                    have A43 := Aside0.mk A430
                    clear A430
                    by_cases c44 : t285 = true
                    ·subst c44
                     have H1 : ((dancestudioref24_Same.f k t267 (([(⟨t183, t184, t185, t186, t187, t188, t189⟩ : S29)] : List (S29)))).bind fun t289 => (some t289)) = some r := by rw [if_pos rfl] at H; exact H
                     clear H
                     have H := H1
                     clear H1
                     obtain ⟨y286, hy286⟩ : ∃ y_ : List (S29), y_ = (([(⟨t183, t184, t185, t186, t187, t188, t189⟩ : S29)] : List (S29))) := ⟨_, rfl⟩
                     replace H : ((dancestudioref24_Same.f k t267 y286).bind fun t289 => (some t289)) = some r := by first | (rw [hy286]; with_reducible exact H) | (have H2_ := (Option.bind_some _ _).symm.trans H; rw [hy286]; with_reducible exact H2_) | (have H2_ := (Option.bind_some _ _).symm.trans H; with_reducible exact H2_) | with_reducible exact H | (rw [hy286]; exact H) | exact H
                     have Ny286 := Aside0.mk hy286
                     clear hy286
                     replace H := Option.bind_eq_some_iff.mp H
                     obtain ⟨t289, A450, H⟩ := H
                     replace H : (some t289) = some r := H
                     have A45 := Aside0.mk A450
                     clear A450
                     obtain rfl := Option.some.inj H
                     go_enter Try.func22, Try.ntmps22
                     try go_wp2_with (first | ((with_reducible refine gate_callee (f := 58) rfl ?_); refine goesL_ (some 17) rfl rfl Try.func58 (by kernel_rfl) rfl #[.int .i64 0, .int .i64 24] rfl (by (try simp only [List.map_toArray, List.map_cons, List.map_nil]); first | done | rfl | (simp only [List.length_drop, List.length_take]; rfl)) ?_; (with_reducible refine (dancestudiolaw24_hold.calls 0 24 t169 t170 t171 t172 t173 t174 t175 _ A1.out).mono ?_); rintro e w46 ⟨rfl, hb⟩; refine ⟨_, rfl, ?_⟩; have n0_ := Aside0.mk (below_step (hU HB.out) hb); clear HB; have HB := n0_; clear n0_; (try clear hb); (try clear hb2); (try clear hk); (try clear hi)) | ((with_reducible refine gate_callee (f := 59) rfl ?_); refine goesL_ (some 18) rfl rfl Try.func59 (by kernel_rfl) rfl #[] rfl (by (try simp only [List.map_toArray, List.map_cons, List.map_nil]); first | done | rfl | (simp only [List.length_drop, List.length_take]; rfl)) ?_; (with_reducible refine (dancestudiolaw24_arm.calls  t176 t177 t178 t179 t180 t181 t182 _ A2.out).mono ?_); rintro e w47 ⟨rfl, hb⟩; refine ⟨_, rfl, ?_⟩; have n0_ := Aside0.mk (below_step (hU HB.out) hb); clear HB; have HB := n0_; clear n0_; (try clear hb); (try clear hb2); (try clear hk); (try clear hi)) | ((with_reducible refine gate_callee (f := 60) rfl ?_); refine goesL_ (some 19) rfl rfl Try.func60 (by kernel_rfl) rfl #[.int .i64 24] rfl (by (try simp only [List.map_toArray, List.map_cons, List.map_nil]); first | done | rfl | (simp only [List.length_drop, List.length_take]; rfl)) ?_; (with_reducible refine (dancestudiolaw24_turn.calls 24 t183 t184 t185 t186 t187 t188 t189 _ A3.out).mono ?_); rintro e w48 ⟨rfl, hb⟩; refine ⟨_, rfl, ?_⟩; have n0_ := Aside0.mk (below_step (hU HB.out) hb); clear HB; have HB := n0_; clear n0_; (try clear hb); (try clear hb2); (try clear hk); (try clear hi)) | ((with_reducible refine gate_dst (N := 1) rfl ?_); (try (refine gate_guard (by rfl) ?_; dsimp only)); refine box_event ?hg (N := 1) ?hd (cs := #[.int .i64 0, .int .i64 0, .int .i64 0, .int .i64 0, .int .i64 0, .int .i64 0, .int .i64 0]) (t := 29) ?hr ?_; (case hd => rfl); (case hg => rfl); (case hr => first | (go_simp; done) | (go_simp; rfl)); intro gb190 hg w49 hbox hb; have n0_ := Aside0.mk (below_step (hU HB.out) hb); have n1_ := Aside0.mk (hbox); have n2_ := Aside0.mk ((by rw [hg]; exact (below_size (hU HB.out)) : w.heap.size ≤ gb190)); have n3_ := Aside0.mk ((by rw [hg]; exact (below_size (hU HB.out)) : w.heap.size ≤ gb190)); clear HB; have HB := n0_; have BK190 := n1_; have GW190 := n2_; have GE190 := n3_; clear n0_ n1_ n2_ n3_; clear hb hbox hg) | ((with_reducible refine gate_dst (N := 2) rfl ?_); (try (refine gate_guard (by rfl) ?_; dsimp only)); refine box_event ?hg (N := 2) ?hd (cs := #[.int .i64 0, .int .i64 0, .int .i64 0, .int .i64 0, .int .i64 0, .int .i64 0, .int .i64 0]) (t := 29) ?hr ?_; (case hd => rfl); (case hg => rfl); (case hr => first | (go_simp; done) | (go_simp; rfl)); intro gb191 hg w50 hbox hb; have n0_ := Aside0.mk (blk_below (bU BK190.out) hb); have n1_ := Aside0.mk (below_step (hU HB.out) hb); have n2_ := Aside0.mk (hbox); have n3_ := Aside0.mk ((by rw [hg]; exact (below_size (hU HB.out)) : w.heap.size ≤ gb191)); have n4_ := Aside0.mk ((by rw [hg]; exact (below_size (hU HB.out)) : w.heap.size ≤ gb191)); have n5_ := Aside0.mk ((by rw [hg]; exact Nat.ne_of_lt (blk_lt (bU BK190.out)) : gb190 ≠ gb191)); have n6_ := Aside0.mk ((by rw [hg]; exact Nat.ne_of_gt (blk_lt (bU BK190.out)) : gb191 ≠ gb190)); clear BK190; clear HB; have BK190 := n0_; have HB := n1_; have BK191 := n2_; have GW191 := n3_; have GE191 := n4_; have NB190_191 := n5_; have NB191_190 := n6_; clear n0_ n1_ n2_ n3_ n4_ n5_ n6_; clear hb hbox hg) | ((with_reducible refine gate_dst (N := 3) rfl ?_); (try (refine gate_guard (by rfl) ?_; dsimp only)); refine box_event ?hg (N := 3) ?hd (cs := #[.int .i64 0, .int .i64 0, .int .i64 0, .int .i64 0, .int .i64 0, .int .i64 0, .int .i64 0]) (t := 29) ?hr ?_; (case hd => rfl); (case hg => rfl); (case hr => first | (go_simp; done) | (go_simp; rfl)); intro gb192 hg w51 hbox hb; have n0_ := Aside0.mk (blk_below (bU BK190.out) hb); have n1_ := Aside0.mk (blk_below (bU BK191.out) hb); have n2_ := Aside0.mk (below_step (hU HB.out) hb); have n3_ := Aside0.mk (hbox); have n4_ := Aside0.mk ((by rw [hg]; exact (below_size (hU HB.out)) : w.heap.size ≤ gb192)); have n5_ := Aside0.mk ((by rw [hg]; exact (below_size (hU HB.out)) : w.heap.size ≤ gb192)); have n6_ := Aside0.mk ((by rw [hg]; exact Nat.ne_of_lt (blk_lt (bU BK190.out)) : gb190 ≠ gb192)); have n7_ := Aside0.mk ((by rw [hg]; exact Nat.ne_of_gt (blk_lt (bU BK190.out)) : gb192 ≠ gb190)); have n8_ := Aside0.mk ((by rw [hg]; exact Nat.ne_of_lt (blk_lt (bU BK191.out)) : gb191 ≠ gb192)); have n9_ := Aside0.mk ((by rw [hg]; exact Nat.ne_of_gt (blk_lt (bU BK191.out)) : gb192 ≠ gb191)); clear BK190; clear BK191; clear HB; have BK190 := n0_; have BK191 := n1_; have HB := n2_; have BK192 := n3_; have GW192 := n4_; have GE192 := n5_; have NB190_192 := n6_; have NB192_190 := n7_; have NB191_192 := n8_; have NB192_191 := n9_; clear n0_ n1_ n2_ n3_ n4_ n5_ n6_ n7_ n8_ n9_; clear hb hbox hg; have hnb52 := NB190_191.out; have hnc52 := NB191_190.out; have hnb53 := NB190_192.out; have hnc53 := NB192_190.out; have hcz54_0 := blk_cell BK190.out; have hfz54_0 := blk_frozen BK190.out; have hnb55 := NB191_192.out; have hnc55 := NB192_191.out; have hcz56_0 := blk_cell BK191.out; have hfz56_0 := blk_frozen BK191.out; have hcz57_0 := blk_cell BK192.out; have hfz57_0 := blk_frozen BK192.out) | ((with_reducible refine gate_dst (N := 23) rfl ?_); (try (refine gate_guard (by rfl) ?_; dsimp only)); refine Kd.R_lit k29 _ 29 ?hg (N := 23) ?hd (xs := ([(⟨t169, t170, t171, t172, t173, t174, t175⟩ : S29), (⟨t176, t177, t178, t179, t180, t181, t182⟩ : S29), (⟨t183, t184, t185, t186, t187, t188, t189⟩ : S29)] : List (S29))) (inner := [.int .i64 t169, .int .i64 t170, .int .i64 t171, .int .i64 t172, .int .i64 t173, .int .i64 t174, .int .i64 t175, .int .i64 t176, .int .i64 t177, .int .i64 t178, .int .i64 t179, .int .i64 t180, .int .i64 t181, .int .i64 t182, .int .i64 t183, .int .i64 t184, .int .i64 t185, .int .i64 t186, .int .i64 t187, .int .i64 t188, .int .i64 t189]) (ok := fun _ => True) (okp := fun _ => True) ?hr ?hp (fun _ hk => hk) trivial (Below.refl _ _) (Nat.le_refl _) (by simp) ?_; (case hd => rfl); (case hg => rfl); (case hr => first | (go_simp; done) | (go_simp; rfl)); (case hp => exact (Reps.c7 (show Kd.M k29 _ _ _ (⟨t169, t170, t171, t172, t173, t174, t175⟩ : S29) [.int .i64 t169, .int .i64 t170, .int .i64 t171, .int .i64 t172, .int .i64 t173, .int .i64 t174, .int .i64 t175] from (k29_mkM _ _ _ (⟨t169, t170, t171, t172, t173, t174, t175⟩ : S29) )) (Reps.c7 (show Kd.M k29 _ _ _ (⟨t176, t177, t178, t179, t180, t181, t182⟩ : S29) [.int .i64 t176, .int .i64 t177, .int .i64 t178, .int .i64 t179, .int .i64 t180, .int .i64 t181, .int .i64 t182] from (k29_mkM _ _ _ (⟨t176, t177, t178, t179, t180, t181, t182⟩ : S29) )) (Reps.c7 (show Kd.M k29 _ _ _ (⟨t183, t184, t185, t186, t187, t188, t189⟩ : S29) [.int .i64 t183, .int .i64 t184, .int .i64 t185, .int .i64 t186, .int .i64 t187, .int .i64 t188, .int .i64 t189] from (k29_mkM _ _ _ (⟨t183, t184, t185, t186, t187, t188, t189⟩ : S29) )) (Reps.none _ _))))); intro v194 w58 ho59 hb hg_ hnew_; clear hg_ hnew_; (first | rw [← Ny193.out] at ho59 | (simp only [Int.reduceToNat] at ho59; rw [← Ny193.out] at ho59)); have n0_ := Aside0.mk (Kd.R_lower (Kd.R_newB (Kd.R_newB (Kd.R_newB ho59 (g := gb190) (o := .cells #[.int .i64 t169, .int .i64 t170, .int .i64 t171, .int .i64 t172, .int .i64 t173, .int .i64 t174, .int .i64 t175] 29 (0, 0)) (by (iterate 7 ((with_reducible repeat (first | refine blk_drewN ?_ _ | refine blk_drew ?_ | refine blk_alloc ?_ _)); refine (Below.heap_setCell _ ⟨_, _, none⟩ _ _ NB190_192.out).trans ?_)); (iterate 7 ((with_reducible repeat (first | refine blk_drewN ?_ _ | refine blk_drew ?_ | refine blk_alloc ?_ _)); refine (Below.heap_setCell _ ⟨_, _, none⟩ _ _ NB190_191.out).trans ?_)); (with_reducible repeat (first | refine blk_drewN ?_ _ | refine blk_drew ?_ | refine blk_alloc ?_ _)); apply blk_put; (iterate 6 ((with_reducible repeat (first | refine blk_drewN ?_ _ | refine blk_drew ?_ | refine blk_alloc ?_ _)); apply blk_set)); (with_reducible repeat (first | refine blk_drewN ?_ _ | refine blk_drew ?_ | refine blk_alloc ?_ _)); exact BK190.out; simp only [List.setIfInBounds_toArray, List.set_cons_zero, List.set_cons_succ])) (g := gb191) (o := .cells #[.int .i64 t176, .int .i64 t177, .int .i64 t178, .int .i64 t179, .int .i64 t180, .int .i64 t181, .int .i64 t182] 29 (0, 0)) (by (iterate 7 ((with_reducible repeat (first | refine blk_drewN ?_ _ | refine blk_drew ?_ | refine blk_alloc ?_ _)); refine (Below.heap_setCell _ ⟨_, _, none⟩ _ _ NB191_192.out).trans ?_)); (with_reducible repeat (first | refine blk_drewN ?_ _ | refine blk_drew ?_ | refine blk_alloc ?_ _)); apply blk_put; (iterate 6 ((with_reducible repeat (first | refine blk_drewN ?_ _ | refine blk_drew ?_ | refine blk_alloc ?_ _)); apply blk_set)); (iterate 7 ((with_reducible repeat (first | refine blk_drewN ?_ _ | refine blk_drew ?_ | refine blk_alloc ?_ _)); refine (Below.heap_setCell _ ⟨_, _, none⟩ _ _ NB191_190.out).trans ?_)); (with_reducible repeat (first | refine blk_drewN ?_ _ | refine blk_drew ?_ | refine blk_alloc ?_ _)); exact BK191.out; simp only [List.setIfInBounds_toArray, List.set_cons_zero, List.set_cons_succ])) (g := gb192) (o := .cells #[.int .i64 t183, .int .i64 t184, .int .i64 t185, .int .i64 t186, .int .i64 t187, .int .i64 t188, .int .i64 t189] 29 (0, 0)) (by (with_reducible repeat (first | refine blk_drewN ?_ _ | refine blk_drew ?_ | refine blk_alloc ?_ _)); apply blk_put; (iterate 6 ((with_reducible repeat (first | refine blk_drewN ?_ _ | refine blk_drew ?_ | refine blk_alloc ?_ _)); apply blk_set)); (iterate 7 ((with_reducible repeat (first | refine blk_drewN ?_ _ | refine blk_drew ?_ | refine blk_alloc ?_ _)); refine (Below.heap_setCell _ ⟨_, _, none⟩ _ _ NB192_191.out).trans ?_)); (iterate 7 ((with_reducible repeat (first | refine blk_drewN ?_ _ | refine blk_drew ?_ | refine blk_alloc ?_ _)); refine (Below.heap_setCell _ ⟨_, _, none⟩ _ _ NB192_190.out).trans ?_)); (with_reducible repeat (first | refine blk_drewN ?_ _ | refine blk_drew ?_ | refine blk_alloc ?_ _)); exact BK192.out; simp only [List.setIfInBounds_toArray, List.set_cons_zero, List.set_cons_succ])) (below_size (hU HB.out))); have n1_ := Aside0.mk (blk_below (g := gb190) (o := .cells #[.int .i64 t169, .int .i64 t170, .int .i64 t171, .int .i64 t172, .int .i64 t173, .int .i64 t174, .int .i64 t175] 29 (0, 0)) (by (iterate 7 ((with_reducible repeat (first | refine blk_drewN ?_ _ | refine blk_drew ?_ | refine blk_alloc ?_ _)); refine (Below.heap_setCell _ ⟨_, _, none⟩ _ _ NB190_192.out).trans ?_)); (iterate 7 ((with_reducible repeat (first | refine blk_drewN ?_ _ | refine blk_drew ?_ | refine blk_alloc ?_ _)); refine (Below.heap_setCell _ ⟨_, _, none⟩ _ _ NB190_191.out).trans ?_)); (with_reducible repeat (first | refine blk_drewN ?_ _ | refine blk_drew ?_ | refine blk_alloc ?_ _)); apply blk_put; (iterate 6 ((with_reducible repeat (first | refine blk_drewN ?_ _ | refine blk_drew ?_ | refine blk_alloc ?_ _)); apply blk_set)); (with_reducible repeat (first | refine blk_drewN ?_ _ | refine blk_drew ?_ | refine blk_alloc ?_ _)); exact BK190.out; simp only [List.setIfInBounds_toArray, List.set_cons_zero, List.set_cons_succ]) hb); have n2_ := Aside0.mk (blk_below (g := gb191) (o := .cells #[.int .i64 t176, .int .i64 t177, .int .i64 t178, .int .i64 t179, .int .i64 t180, .int .i64 t181, .int .i64 t182] 29 (0, 0)) (by (iterate 7 ((with_reducible repeat (first | refine blk_drewN ?_ _ | refine blk_drew ?_ | refine blk_alloc ?_ _)); refine (Below.heap_setCell _ ⟨_, _, none⟩ _ _ NB191_192.out).trans ?_)); (with_reducible repeat (first | refine blk_drewN ?_ _ | refine blk_drew ?_ | refine blk_alloc ?_ _)); apply blk_put; (iterate 6 ((with_reducible repeat (first | refine blk_drewN ?_ _ | refine blk_drew ?_ | refine blk_alloc ?_ _)); apply blk_set)); (iterate 7 ((with_reducible repeat (first | refine blk_drewN ?_ _ | refine blk_drew ?_ | refine blk_alloc ?_ _)); refine (Below.heap_setCell _ ⟨_, _, none⟩ _ _ NB191_190.out).trans ?_)); (with_reducible repeat (first | refine blk_drewN ?_ _ | refine blk_drew ?_ | refine blk_alloc ?_ _)); exact BK191.out; simp only [List.setIfInBounds_toArray, List.set_cons_zero, List.set_cons_succ]) hb); have n3_ := Aside0.mk (blk_below (g := gb192) (o := .cells #[.int .i64 t183, .int .i64 t184, .int .i64 t185, .int .i64 t186, .int .i64 t187, .int .i64 t188, .int .i64 t189] 29 (0, 0)) (by (with_reducible repeat (first | refine blk_drewN ?_ _ | refine blk_drew ?_ | refine blk_alloc ?_ _)); apply blk_put; (iterate 6 ((with_reducible repeat (first | refine blk_drewN ?_ _ | refine blk_drew ?_ | refine blk_alloc ?_ _)); apply blk_set)); (iterate 7 ((with_reducible repeat (first | refine blk_drewN ?_ _ | refine blk_drew ?_ | refine blk_alloc ?_ _)); refine (Below.heap_setCell _ ⟨_, _, none⟩ _ _ NB192_191.out).trans ?_)); (iterate 7 ((with_reducible repeat (first | refine blk_drewN ?_ _ | refine blk_drew ?_ | refine blk_alloc ?_ _)); refine (Below.heap_setCell _ ⟨_, _, none⟩ _ _ NB192_190.out).trans ?_)); (with_reducible repeat (first | refine blk_drewN ?_ _ | refine blk_drew ?_ | refine blk_alloc ?_ _)); exact BK192.out; simp only [List.setIfInBounds_toArray, List.set_cons_zero, List.set_cons_succ]) hb); have n4_ := Aside0.mk (below_step (hU HB.out) hb); clear BK190; clear BK191; clear BK192; clear HB; have HO195 := n0_; have BK190 := n1_; have BK191 := n2_; have BK192 := n3_; have HB := n4_; clear n0_ n1_ n2_ n3_ n4_; clear hb ho59))
                     have n0_ := Aside0.mk (Kd.R_drew HO195.out)
                     have n1_ := Aside0.mk (blk_drew BK190.out)
                     have n2_ := Aside0.mk (blk_drew BK191.out)
                     have n3_ := Aside0.mk (blk_drew BK192.out)
                     have n4_ := Aside0.mk (below_drew1 HB.out)
                     clear HO195
                     clear BK190
                     clear BK191
                     clear BK192
                     clear HB
                     have HO195 := n0_
                     have BK190 := n1_
                     have BK191 := n2_
                     have BK192 := n3_
                     have HB := n4_
                     clear n0_ n1_ n2_ n3_ n4_
                     obtain ⟨Ao61, co61, eo61⟩ := Kd.R_slice HO195.out
                     (first | subst eo61 | (injection eo61 with f1_ f2_ f3_; have f4_ := f1_.symm; have f5_ := f3_.symm; clear f1_ f2_ f3_; subst f4_; subst f5_))
                     refine start_ (n := 22) (S := fun w' => w'.cell? ⟨gb191, 0, none⟩ = some (.int .i64 t176) ∧ w'.cell? ⟨gb191, 1, none⟩ = some (.int .i64 t177) ∧ w'.cell? ⟨gb191, 2, none⟩ = some (.int .i64 t178) ∧ w'.cell? ⟨gb191, 3, none⟩ = some (.int .i64 t179) ∧ w'.cell? ⟨gb191, 4, none⟩ = some (.int .i64 t180) ∧ w'.cell? ⟨gb191, 5, none⟩ = some (.int .i64 t181) ∧ w'.cell? ⟨gb191, 6, none⟩ = some (.int .i64 t182) ∧ w'.cell? ⟨gb190, 0, none⟩ = some (.int .i64 t169) ∧ w'.cell? ⟨gb190, 1, none⟩ = some (.int .i64 t170) ∧ w'.cell? ⟨gb190, 2, none⟩ = some (.int .i64 t171) ∧ w'.cell? ⟨gb190, 3, none⟩ = some (.int .i64 t172) ∧ w'.cell? ⟨gb190, 4, none⟩ = some (.int .i64 t173) ∧ w'.cell? ⟨gb190, 5, none⟩ = some (.int .i64 t174) ∧ w'.cell? ⟨gb190, 6, none⟩ = some (.int .i64 t175)) (ds := []) #[false, false, false, false, false, false, false, false, false, false, false, false, false, false, false, false, false, false, false, false, false, false] (by kernel_rfl) rfl rfl ⟨(blk_cell BK191.out 0).trans rfl, (blk_cell BK191.out 1).trans rfl, (blk_cell BK191.out 2).trans rfl, (blk_cell BK191.out 3).trans rfl, (blk_cell BK191.out 4).trans rfl, (blk_cell BK191.out 5).trans rfl, (blk_cell BK191.out 6).trans rfl, (blk_cell BK190.out 0).trans rfl, (blk_cell BK190.out 1).trans rfl, (blk_cell BK190.out 2).trans rfl, (blk_cell BK190.out 3).trans rfl, (blk_cell BK190.out 4).trans rfl, (blk_cell BK190.out 5).trans rfl, (blk_cell BK190.out 6).trans rfl⟩ (fun hHeld => ?_); refine with_tabW dancestudiolaw24_awake.tab3 dancestudiolaw24_awake.bits3 (fun HT_ HW_ => ?_)
                     generalize w58.drew = w60 at HO195 BK190 BK191 BK192 HB hHeld ⊢
                     refine puA 0 24 (bs 22 1) ?_
                     refine one_ (i := 1) (N := some 25) (bs 22 3) rfl rfl (one_of HT_.out (by kernel_rfl)) (by decide) (fun K hK => ?_)
                     refine goes_ Try.func20 (by kernel_rfl) rfl #[.slice Ao61 y193.length co61, .int .i64 48] (by rfl) rfl rfl (by (try simp only [List.map_toArray, List.map_cons, List.map_nil]); first | done | rfl | (simp only [List.length_drop, List.length_take]; rfl)) ?_
                     with_reducible refine (staff_Check.calls _ _ y193 48 t196 _ ?side1 ?side2 A4.out).mono ?_
                     (case side1 => repeat (first | exact (Kd.R_reads' HO195.out).2.2 | (with_reducible refine Kd.C_alloc ?_ _) | (with_reducible refine Kd.C_drewN ?_ _) | (with_reducible refine Kd.C_drew ?_)))
                     (case side2 => exact (Kd.R_reads' HO195.out).2.1)
                     rintro e w62 ⟨rfl, hb⟩
                     refine ⟨_, rfl, ?_⟩
                     have n0_ := Aside0.mk (Kd.R_below (Kd.rU HO195.out) hb)
                     have n1_ := Aside0.mk (blk_below (bU BK190.out) hb)
                     have n2_ := Aside0.mk (blk_below (bU BK191.out) hb)
                     have n3_ := Aside0.mk (blk_below (bU BK192.out) hb)
                     have n4_ := Aside0.mk (below_step (hU HB.out) hb)
                     clear HO195
                     clear BK190
                     clear BK191
                     clear BK192
                     clear HB
                     have HO195 := n0_
                     have BK190 := n1_
                     have BK191 := n2_
                     have BK192 := n3_
                     have HB := n4_
                     clear n0_ n1_ n2_ n3_ n4_
                     (try clear hb)
                     (try clear hb2)
                     (try clear hk)
                     (try clear hi)
                     refine hK.out _ _ ⟨(blk_cell BK191.out 0).trans rfl, (blk_cell BK191.out 1).trans rfl, (blk_cell BK191.out 2).trans rfl, (blk_cell BK191.out 3).trans rfl, (blk_cell BK191.out 4).trans rfl, (blk_cell BK191.out 5).trans rfl, (blk_cell BK191.out 6).trans rfl, (blk_cell BK190.out 0).trans rfl, (blk_cell BK190.out 1).trans rfl, (blk_cell BK190.out 2).trans rfl, (blk_cell BK190.out 3).trans rfl, (blk_cell BK190.out 4).trans rfl, (blk_cell BK190.out 5).trans rfl, (blk_cell BK190.out 6).trans rfl⟩ (fun hHeld => ?_)
                     clear hK K
                     refine nmA 25 ?_
                     refine puA 2 26 (bs 22 7) ?_
                     refine puA 3 27 (bs 22 15) ?_
                     refine tkA 4 28 (bs 22 31) hHeld ?_
                     refine tkA 5 29 (bs 22 63) hHeld ?_
                     refine one_ (i := 6) (N := some 30) (bs 22 127) rfl rfl (one_of HT_.out (by kernel_rfl)) (by decide) (fun K hK => ?_)
                     refine Kd.R_lit_step k29 _ 29 ?hg (N := 30) ?hd (xs := ([(⟨t176, t177, t178, t179, t180, t181, t182⟩ : S29), (⟨t169, t170, t171, t172, t173, t174, t175⟩ : S29)] : List (S29))) (inner := [.int .i64 t176, .int .i64 t177, .int .i64 t178, .int .i64 t179, .int .i64 t180, .int .i64 t181, .int .i64 t182, .int .i64 t169, .int .i64 t170, .int .i64 t171, .int .i64 t172, .int .i64 t173, .int .i64 t174, .int .i64 t175]) (ok := fun _ => True) (okp := fun _ => True) ?hr ?hp (fun _ hk => hk) trivial (Below.refl _ _) (Nat.le_refl _) (by simp) ?_; (case hd => rfl); (case hg => rfl); (case hr => first | (go_simp; done) | (go_simp; rfl)); (case hp => exact (Reps.c7 (show Kd.M k29 _ _ _ (⟨t176, t177, t178, t179, t180, t181, t182⟩ : S29) [.int .i64 t176, .int .i64 t177, .int .i64 t178, .int .i64 t179, .int .i64 t180, .int .i64 t181, .int .i64 t182] from (k29_mkM _ _ _ (⟨t176, t177, t178, t179, t180, t181, t182⟩ : S29) )) (Reps.c7 (show Kd.M k29 _ _ _ (⟨t169, t170, t171, t172, t173, t174, t175⟩ : S29) [.int .i64 t169, .int .i64 t170, .int .i64 t171, .int .i64 t172, .int .i64 t173, .int .i64 t174, .int .i64 t175] from (k29_mkM _ _ _ (⟨t169, t170, t171, t172, t173, t174, t175⟩ : S29) )) (Reps.none _ _))))
                     intro v198 w63 ho64 hb hg_ hnew_
                     clear hg_ hnew_
                     (first | rw [← Ny197.out] at ho64 | (simp only [Int.reduceToNat] at ho64; rw [← Ny197.out] at ho64))
                     have n0_ := Aside0.mk (Kd.R_elder' (Kd.rU HO195.out) (Kd.R_base ho64) hb)
                     have n1_ := Aside0.mk (Kd.R_lower (Kd.R_newB (Kd.R_newB (Kd.R_newB (Kd.R_new' ho64 (Kd.R_lt (Kd.rU HO195.out))) (bU BK190.out)) (bU BK191.out)) (bU BK192.out)) (below_size (hU HB.out)))
                     have n2_ := Aside0.mk (blk_below (bU BK190.out) hb)
                     have n3_ := Aside0.mk (blk_below (bU BK191.out) hb)
                     have n4_ := Aside0.mk (blk_below (bU BK192.out) hb)
                     have n5_ := Aside0.mk (below_step (hU HB.out) hb)
                     clear HO195
                     clear BK190
                     clear BK191
                     clear BK192
                     clear HB
                     have HO195 := n0_
                     have HO199 := n1_
                     have BK190 := n2_
                     have BK191 := n3_
                     have BK192 := n4_
                     have HB := n5_
                     clear n0_ n1_ n2_ n3_ n4_ n5_
                     clear hb ho64
                     obtain ⟨Ao65, co65, eo65⟩ := Kd.R_slice HO199.out
                     (first | subst eo65 | (injection eo65 with f1_ f2_ f3_; have f4_ := f1_.symm; have f5_ := f3_.symm; clear f1_ f2_ f3_; subst f4_; subst f5_))
                     refine hK.out _ _ ⟨(blk_cell BK191.out 0).trans rfl, (blk_cell BK191.out 1).trans rfl, (blk_cell BK191.out 2).trans rfl, (blk_cell BK191.out 3).trans rfl, (blk_cell BK191.out 4).trans rfl, (blk_cell BK191.out 5).trans rfl, (blk_cell BK191.out 6).trans rfl, (blk_cell BK190.out 0).trans rfl, (blk_cell BK190.out 1).trans rfl, (blk_cell BK190.out 2).trans rfl, (blk_cell BK190.out 3).trans rfl, (blk_cell BK190.out 4).trans rfl, (blk_cell BK190.out 5).trans rfl, (blk_cell BK190.out 6).trans rfl⟩ (fun hHeld => ?_)
                     clear hK K
                     refine nmA 30 ?_
                     refine one_ (i := 7) (N := some 31) (bs 22 255) rfl rfl (one_of HT_.out (by kernel_rfl)) (by decide) (fun K hK => ?_)
                     refine goes_ Try.func20 (by kernel_rfl) rfl #[.slice Ao65 y197.length co65, .int .i64 48] (by rfl) rfl rfl (by (try simp only [List.map_toArray, List.map_cons, List.map_nil]); first | done | rfl | (simp only [List.length_drop, List.length_take]; rfl)) ?_
                     with_reducible refine (staff_Check.calls _ _ y197 48 t200 _ ?side1 ?side2 A6.out).mono ?_
                     (case side1 => repeat (first | exact (Kd.R_reads' HO199.out).2.2 | (with_reducible refine Kd.C_alloc ?_ _) | (with_reducible refine Kd.C_drewN ?_ _) | (with_reducible refine Kd.C_drew ?_)))
                     (case side2 => exact (Kd.R_reads' HO199.out).2.1)
                     rintro e w66 ⟨rfl, hb⟩
                     refine ⟨_, rfl, ?_⟩
                     have n0_ := Aside0.mk (Kd.R_below (Kd.rU HO195.out) hb)
                     have n1_ := Aside0.mk (Kd.R_below (Kd.rU HO199.out) hb)
                     have n2_ := Aside0.mk (blk_below (bU BK190.out) hb)
                     have n3_ := Aside0.mk (blk_below (bU BK191.out) hb)
                     have n4_ := Aside0.mk (blk_below (bU BK192.out) hb)
                     have n5_ := Aside0.mk (below_step (hU HB.out) hb)
                     clear HO195
                     clear HO199
                     clear BK190
                     clear BK191
                     clear BK192
                     clear HB
                     have HO195 := n0_
                     have HO199 := n1_
                     have BK190 := n2_
                     have BK191 := n3_
                     have BK192 := n4_
                     have HB := n5_
                     clear n0_ n1_ n2_ n3_ n4_ n5_
                     (try clear hb)
                     (try clear hb2)
                     (try clear hk)
                     (try clear hi)
                     refine hK.out _ _ ⟨(blk_cell BK191.out 0).trans rfl, (blk_cell BK191.out 1).trans rfl, (blk_cell BK191.out 2).trans rfl, (blk_cell BK191.out 3).trans rfl, (blk_cell BK191.out 4).trans rfl, (blk_cell BK191.out 5).trans rfl, (blk_cell BK191.out 6).trans rfl, (blk_cell BK190.out 0).trans rfl, (blk_cell BK190.out 1).trans rfl, (blk_cell BK190.out 2).trans rfl, (blk_cell BK190.out 3).trans rfl, (blk_cell BK190.out 4).trans rfl, (blk_cell BK190.out 5).trans rfl, (blk_cell BK190.out 6).trans rfl⟩ (fun hHeld => ?_)
                     clear hK K
                     refine nmA 31 ?_
                     refine puA 8 32 (bs 22 511) ?_
                     refine puA 9 33 (bs 22 1023) ?_
                     refine puA 10 34 (bs 22 2047) ?_
                     refine puA 11 35 (bs 22 4095) ?_
                     refine one_ (i := 12) (N := some 36) (bs 22 8191) rfl rfl (one_of HT_.out (by kernel_rfl)) (by decide) (fun K hK => ?_)
                     refine goes_ Try.func20 (by kernel_rfl) rfl #[.slice Ao61 y193.length co61, .int .i64 47] (by rfl) rfl rfl (by (try simp only [List.map_toArray, List.map_cons, List.map_nil]); first | done | rfl | (simp only [List.length_drop, List.length_take]; rfl)) ?_
                     with_reducible refine (staff_Check.calls _ _ y193 47 t201 _ ?side1 ?side2 A8.out).mono ?_
                     (case side1 => repeat (first | exact (Kd.R_reads' HO195.out).2.2 | (with_reducible refine Kd.C_alloc ?_ _) | (with_reducible refine Kd.C_drewN ?_ _) | (with_reducible refine Kd.C_drew ?_)))
                     (case side2 => exact (Kd.R_reads' HO195.out).2.1)
                     rintro e w67 ⟨rfl, hb⟩
                     refine ⟨_, rfl, ?_⟩
                     have n0_ := Aside0.mk (Kd.R_below (Kd.rU HO195.out) hb)
                     have n1_ := Aside0.mk (Kd.R_below (Kd.rU HO199.out) hb)
                     have n2_ := Aside0.mk (blk_below (bU BK190.out) hb)
                     have n3_ := Aside0.mk (blk_below (bU BK191.out) hb)
                     have n4_ := Aside0.mk (blk_below (bU BK192.out) hb)
                     have n5_ := Aside0.mk (below_step (hU HB.out) hb)
                     clear HO195
                     clear HO199
                     clear BK190
                     clear BK191
                     clear BK192
                     clear HB
                     have HO195 := n0_
                     have HO199 := n1_
                     have BK190 := n2_
                     have BK191 := n3_
                     have BK192 := n4_
                     have HB := n5_
                     clear n0_ n1_ n2_ n3_ n4_ n5_
                     (try clear hb)
                     (try clear hb2)
                     (try clear hk)
                     (try clear hi)
                     refine hK.out _ _ ⟨(blk_cell BK191.out 0).trans rfl, (blk_cell BK191.out 1).trans rfl, (blk_cell BK191.out 2).trans rfl, (blk_cell BK191.out 3).trans rfl, (blk_cell BK191.out 4).trans rfl, (blk_cell BK191.out 5).trans rfl, (blk_cell BK191.out 6).trans rfl, (blk_cell BK190.out 0).trans rfl, (blk_cell BK190.out 1).trans rfl, (blk_cell BK190.out 2).trans rfl, (blk_cell BK190.out 3).trans rfl, (blk_cell BK190.out 4).trans rfl, (blk_cell BK190.out 5).trans rfl, (blk_cell BK190.out 6).trans rfl⟩ (fun hHeld => ?_)
                     clear hK K
                     refine nmA 36 ?_
                     refine puA 13 37 (bs 22 16383) ?_
                     refine puA 14 38 (bs 22 32767) ?_
                     refine puA 15 39 (bs 22 65535) ?_
                     refine tkA 16 40 (bs 22 131071) hHeld ?_
                     refine one_ (i := 17) (N := some 41) (bs 22 262143) rfl rfl (one_of HT_.out (by kernel_rfl)) (by decide) (fun K hK => ?_)
                     refine goes_ Try.func58 (by kernel_rfl) rfl #[.int .i64 23, .int .i64 1] (by rfl) rfl rfl (by (try simp only [List.map_toArray, List.map_cons, List.map_nil]); first | done | rfl | (simp only [List.length_drop, List.length_take]; rfl)) ?_
                     with_reducible refine (dancestudiolaw24_hold.calls 23 1 t202 t203 t204 t205 t206 t207 t208 _ A10.out).mono ?_
                     rintro e w68 ⟨rfl, hb⟩
                     refine ⟨_, rfl, ?_⟩
                     have n0_ := Aside0.mk (Kd.R_below (Kd.rU HO195.out) hb)
                     have n1_ := Aside0.mk (Kd.R_below (Kd.rU HO199.out) hb)
                     have n2_ := Aside0.mk (blk_below (bU BK190.out) hb)
                     have n3_ := Aside0.mk (blk_below (bU BK191.out) hb)
                     have n4_ := Aside0.mk (blk_below (bU BK192.out) hb)
                     have n5_ := Aside0.mk (below_step (hU HB.out) hb)
                     clear HO195
                     clear HO199
                     clear BK190
                     clear BK191
                     clear BK192
                     clear HB
                     have HO195 := n0_
                     have HO199 := n1_
                     have BK190 := n2_
                     have BK191 := n3_
                     have BK192 := n4_
                     have HB := n5_
                     clear n0_ n1_ n2_ n3_ n4_ n5_
                     (try clear hb)
                     (try clear hb2)
                     (try clear hk)
                     (try clear hi)
                     refine hK.out _ _ ⟨(blk_cell BK191.out 0).trans rfl, (blk_cell BK191.out 1).trans rfl, (blk_cell BK191.out 2).trans rfl, (blk_cell BK191.out 3).trans rfl, (blk_cell BK191.out 4).trans rfl, (blk_cell BK191.out 5).trans rfl, (blk_cell BK191.out 6).trans rfl, (blk_cell BK190.out 0).trans rfl, (blk_cell BK190.out 1).trans rfl, (blk_cell BK190.out 2).trans rfl, (blk_cell BK190.out 3).trans rfl, (blk_cell BK190.out 4).trans rfl, (blk_cell BK190.out 5).trans rfl, (blk_cell BK190.out 6).trans rfl⟩ (fun hHeld => ?_)
                     clear hK K
                     refine nmA 41 ?_
                     refine one_ (i := 18) (N := some 42) (bs 22 524287) rfl rfl (one_of HT_.out (by kernel_rfl)) (by decide) (fun K hK => ?_)
                     refine Kd.R_lit_step k29 _ 29 ?hg (N := 42) ?hd (xs := ([(⟨t169, t170, t171, t172, t173, t174, t175⟩ : S29), (⟨t202, t203, t204, t205, t206, t207, t208⟩ : S29)] : List (S29))) (inner := [.int .i64 t169, .int .i64 t170, .int .i64 t171, .int .i64 t172, .int .i64 t173, .int .i64 t174, .int .i64 t175, .int .i64 t202, .int .i64 t203, .int .i64 t204, .int .i64 t205, .int .i64 t206, .int .i64 t207, .int .i64 t208]) (ok := fun _ => True) (okp := fun _ => True) ?hr ?hp (fun _ hk => hk) trivial (Below.refl _ _) (Nat.le_refl _) (by simp) ?_; (case hd => rfl); (case hg => rfl); (case hr => first | (go_simp; done) | (go_simp; rfl)); (case hp => exact (Reps.c7 (show Kd.M k29 _ _ _ (⟨t169, t170, t171, t172, t173, t174, t175⟩ : S29) [.int .i64 t169, .int .i64 t170, .int .i64 t171, .int .i64 t172, .int .i64 t173, .int .i64 t174, .int .i64 t175] from (k29_mkM _ _ _ (⟨t169, t170, t171, t172, t173, t174, t175⟩ : S29) )) (Reps.c7 (show Kd.M k29 _ _ _ (⟨t202, t203, t204, t205, t206, t207, t208⟩ : S29) [.int .i64 t202, .int .i64 t203, .int .i64 t204, .int .i64 t205, .int .i64 t206, .int .i64 t207, .int .i64 t208] from (k29_mkM _ _ _ (⟨t202, t203, t204, t205, t206, t207, t208⟩ : S29) )) (Reps.none _ _))))
                     intro v210 w69 ho70 hb hg_ hnew_
                     clear hg_ hnew_
                     (first | rw [← Ny209.out] at ho70 | (simp only [Int.reduceToNat] at ho70; rw [← Ny209.out] at ho70))
                     have n0_ := Aside0.mk (Kd.R_elder' (Kd.rU HO195.out) (Kd.R_base ho70) hb)
                     have n1_ := Aside0.mk (Kd.R_elder' (Kd.rU HO199.out) (Kd.R_base ho70) hb)
                     have n2_ := Aside0.mk (Kd.R_lower (Kd.R_newB (Kd.R_newB (Kd.R_newB (Kd.R_new' (Kd.R_new' ho70 (Kd.R_lt (Kd.rU HO195.out))) (Kd.R_lt (Kd.rU HO199.out))) (bU BK190.out)) (bU BK191.out)) (bU BK192.out)) (below_size (hU HB.out)))
                     have n3_ := Aside0.mk (blk_below (bU BK190.out) hb)
                     have n4_ := Aside0.mk (blk_below (bU BK191.out) hb)
                     have n5_ := Aside0.mk (blk_below (bU BK192.out) hb)
                     have n6_ := Aside0.mk (below_step (hU HB.out) hb)
                     clear HO195
                     clear HO199
                     clear BK190
                     clear BK191
                     clear BK192
                     clear HB
                     have HO195 := n0_
                     have HO199 := n1_
                     have HO211 := n2_
                     have BK190 := n3_
                     have BK191 := n4_
                     have BK192 := n5_
                     have HB := n6_
                     clear n0_ n1_ n2_ n3_ n4_ n5_ n6_
                     clear hb ho70
                     obtain ⟨Ao71, co71, eo71⟩ := Kd.R_slice HO211.out
                     (first | subst eo71 | (injection eo71 with f1_ f2_ f3_; have f4_ := f1_.symm; have f5_ := f3_.symm; clear f1_ f2_ f3_; subst f4_; subst f5_))
                     refine hK.out _ _ ⟨(blk_cell BK191.out 0).trans rfl, (blk_cell BK191.out 1).trans rfl, (blk_cell BK191.out 2).trans rfl, (blk_cell BK191.out 3).trans rfl, (blk_cell BK191.out 4).trans rfl, (blk_cell BK191.out 5).trans rfl, (blk_cell BK191.out 6).trans rfl, (blk_cell BK190.out 0).trans rfl, (blk_cell BK190.out 1).trans rfl, (blk_cell BK190.out 2).trans rfl, (blk_cell BK190.out 3).trans rfl, (blk_cell BK190.out 4).trans rfl, (blk_cell BK190.out 5).trans rfl, (blk_cell BK190.out 6).trans rfl⟩ (fun hHeld => ?_)
                     clear hK K
                     refine nmA 42 ?_
                     refine one_ (i := 19) (N := some 43) (bs 22 1048575) rfl rfl (one_of HT_.out (by kernel_rfl)) (by decide) (fun K hK => ?_)
                     refine goes_ Try.func20 (by kernel_rfl) rfl #[.slice Ao71 y209.length co71, .int .i64 48] (by rfl) rfl rfl (by (try simp only [List.map_toArray, List.map_cons, List.map_nil]); first | done | rfl | (simp only [List.length_drop, List.length_take]; rfl)) ?_
                     with_reducible refine (staff_Check.calls _ _ y209 48 t212 _ ?side1 ?side2 A11.out).mono ?_
                     (case side1 => repeat (first | exact (Kd.R_reads' HO211.out).2.2 | (with_reducible refine Kd.C_alloc ?_ _) | (with_reducible refine Kd.C_drewN ?_ _) | (with_reducible refine Kd.C_drew ?_)))
                     (case side2 => exact (Kd.R_reads' HO211.out).2.1)
                     rintro e w72 ⟨rfl, hb⟩
                     refine ⟨_, rfl, ?_⟩
                     have n0_ := Aside0.mk (Kd.R_below (Kd.rU HO195.out) hb)
                     have n1_ := Aside0.mk (Kd.R_below (Kd.rU HO199.out) hb)
                     have n2_ := Aside0.mk (Kd.R_below (Kd.rU HO211.out) hb)
                     have n3_ := Aside0.mk (blk_below (bU BK190.out) hb)
                     have n4_ := Aside0.mk (blk_below (bU BK191.out) hb)
                     have n5_ := Aside0.mk (blk_below (bU BK192.out) hb)
                     have n6_ := Aside0.mk (below_step (hU HB.out) hb)
                     clear HO195
                     clear HO199
                     clear HO211
                     clear BK190
                     clear BK191
                     clear BK192
                     clear HB
                     have HO195 := n0_
                     have HO199 := n1_
                     have HO211 := n2_
                     have BK190 := n3_
                     have BK191 := n4_
                     have BK192 := n5_
                     have HB := n6_
                     clear n0_ n1_ n2_ n3_ n4_ n5_ n6_
                     (try clear hb)
                     (try clear hb2)
                     (try clear hk)
                     (try clear hi)
                     refine hK.out _ _ ⟨(blk_cell BK191.out 0).trans rfl, (blk_cell BK191.out 1).trans rfl, (blk_cell BK191.out 2).trans rfl, (blk_cell BK191.out 3).trans rfl, (blk_cell BK191.out 4).trans rfl, (blk_cell BK191.out 5).trans rfl, (blk_cell BK191.out 6).trans rfl, (blk_cell BK190.out 0).trans rfl, (blk_cell BK190.out 1).trans rfl, (blk_cell BK190.out 2).trans rfl, (blk_cell BK190.out 3).trans rfl, (blk_cell BK190.out 4).trans rfl, (blk_cell BK190.out 5).trans rfl, (blk_cell BK190.out 6).trans rfl⟩ (fun hHeld => ?_)
                     clear hK K
                     refine nmA 43 ?_
                     refine puA 20 44 (bs 22 2097151) ?_
                     refine puA 21 45 (bs 22 4194303) ?_
                     refine done_ (done_of HT_.out (by kernel_rfl)) ?_
                     have hcz73_0 := blk_cell BK190.out
                     have hfz73_0 := blk_frozen BK190.out
                     have hcz74_0 := blk_cell BK192.out
                     have hfz74_0 := blk_frozen BK192.out
                     try go_wp2_with (first | ((with_reducible refine gate_dst (N := 49) rfl ?_); (try (refine gate_guard (by rfl) ?_; dsimp only)); refine Kd.R_lit k29 _ 29 ?hg (N := 49) ?hd (xs := ([(⟨t169, t170, t171, t172, t173, t174, t175⟩ : S29), (⟨t183, t184, t185, t186, t187, t188, t189⟩ : S29)] : List (S29))) (inner := [.int .i64 t169, .int .i64 t170, .int .i64 t171, .int .i64 t172, .int .i64 t173, .int .i64 t174, .int .i64 t175, .int .i64 t183, .int .i64 t184, .int .i64 t185, .int .i64 t186, .int .i64 t187, .int .i64 t188, .int .i64 t189]) (ok := fun _ => True) (okp := fun _ => True) ?hr ?hp (fun _ hk => hk) trivial (Below.refl _ _) (Nat.le_refl _) (by simp) ?_; (case hd => rfl); (case hg => rfl); (case hr => first | (go_simp; done) | (go_simp; rfl)); (case hp => exact (Reps.c7 (show Kd.M k29 _ _ _ (⟨t169, t170, t171, t172, t173, t174, t175⟩ : S29) [.int .i64 t169, .int .i64 t170, .int .i64 t171, .int .i64 t172, .int .i64 t173, .int .i64 t174, .int .i64 t175] from (k29_mkM _ _ _ (⟨t169, t170, t171, t172, t173, t174, t175⟩ : S29) )) (Reps.c7 (show Kd.M k29 _ _ _ (⟨t183, t184, t185, t186, t187, t188, t189⟩ : S29) [.int .i64 t183, .int .i64 t184, .int .i64 t185, .int .i64 t186, .int .i64 t187, .int .i64 t188, .int .i64 t189] from (k29_mkM _ _ _ (⟨t183, t184, t185, t186, t187, t188, t189⟩ : S29) )) (Reps.none _ _)))); intro v214 w75 ho76 hb hg_ hnew_; clear hg_ hnew_; (first | rw [← Ny213.out] at ho76 | (simp only [Int.reduceToNat] at ho76; rw [← Ny213.out] at ho76)); have n0_ := Aside0.mk (Kd.R_elder' (Kd.rU HO195.out) (Kd.R_base ho76) hb); have n1_ := Aside0.mk (Kd.R_elder' (Kd.rU HO199.out) (Kd.R_base ho76) hb); have n2_ := Aside0.mk (Kd.R_elder' (Kd.rU HO211.out) (Kd.R_base ho76) hb); have n3_ := Aside0.mk (Kd.R_lower (Kd.R_newB (Kd.R_newB (Kd.R_newB (Kd.R_new' (Kd.R_new' (Kd.R_new' ho76 (Kd.R_lt (Kd.rU HO195.out))) (Kd.R_lt (Kd.rU HO199.out))) (Kd.R_lt (Kd.rU HO211.out))) (bU BK190.out)) (bU BK191.out)) (bU BK192.out)) (below_size (hU HB.out))); have n4_ := Aside0.mk (blk_below (bU BK190.out) hb); have n5_ := Aside0.mk (blk_below (bU BK191.out) hb); have n6_ := Aside0.mk (blk_below (bU BK192.out) hb); have n7_ := Aside0.mk (below_step (hU HB.out) hb); clear HO195; clear HO199; clear HO211; clear BK190; clear BK191; clear BK192; clear HB; have HO195 := n0_; have HO199 := n1_; have HO211 := n2_; have HO215 := n3_; have BK190 := n4_; have BK191 := n5_; have BK192 := n6_; have HB := n7_; clear n0_ n1_ n2_ n3_ n4_ n5_ n6_ n7_; clear hb ho76; have hcz77_0 := blk_cell BK191.out; have hfz77_0 := blk_frozen BK191.out; obtain ⟨Ao78, co78, eo78⟩ := Kd.R_slice HO215.out; subst eo78) | ((with_reducible refine gate_callee (f := 23) rfl ?_); refine goesL_ (some 51) rfl rfl Try.func23 (by kernel_rfl) rfl #[.slice Ao78 y213.length co78, .int .i64 48, .agg #[.int .i64 t176, .int .i64 t177, .int .i64 t178, .int .i64 t179, .int .i64 t180, .int .i64 t181, .int .i64 t182]] rfl (by (try simp only [List.map_toArray, List.map_cons, List.map_nil]); first | done | rfl | (simp only [List.length_drop, List.length_take]; rfl)) ?_; (with_reducible refine (staff_Put.calls _ _ y213 48 t176 t177 t178 t179 t180 t181 t182 t216 t219 _ ?side1 ?side2 A13.out).mono ?_); (case side1 => repeat (first | exact (Kd.R_reads' HO215.out).2.2 | (with_reducible refine Kd.C_alloc ?_ _) | (with_reducible refine Kd.C_drewN ?_ _) | (with_reducible refine Kd.C_drew ?_))); (case side2 => exact (Kd.R_reads' HO215.out).2.1); rintro e w79 ⟨v217, rfl, ho0, hb⟩; refine ⟨_, rfl, ?_⟩; have n0_ := Aside0.mk (Kd.R_elder' (Kd.rU HO195.out) (Kd.R_base ho0) hb); have n1_ := Aside0.mk (Kd.R_elder' (Kd.rU HO199.out) (Kd.R_base ho0) hb); have n2_ := Aside0.mk (Kd.R_elder' (Kd.rU HO211.out) (Kd.R_base ho0) hb); have n3_ := Aside0.mk (Kd.R_elder' (Kd.rU HO215.out) (Kd.R_base ho0) hb); have n4_ := Aside0.mk (Kd.R_lower (Kd.R_newB (Kd.R_newB (Kd.R_newB (Kd.R_new' (Kd.R_new' (Kd.R_new' (Kd.R_new' ho0 (Kd.R_lt (Kd.rU HO195.out))) (Kd.R_lt (Kd.rU HO199.out))) (Kd.R_lt (Kd.rU HO211.out))) (Kd.R_lt (Kd.rU HO215.out))) (bU BK190.out)) (bU BK191.out)) (bU BK192.out)) (below_size (hU HB.out))); have n5_ := Aside0.mk (blk_below (bU BK190.out) hb); have n6_ := Aside0.mk (blk_below (bU BK191.out) hb); have n7_ := Aside0.mk (blk_below (bU BK192.out) hb); have n8_ := Aside0.mk (below_step (hU HB.out) hb); clear HO195; clear HO199; clear HO211; clear HO215; clear BK190; clear BK191; clear BK192; clear HB; have HO195 := n0_; have HO199 := n1_; have HO211 := n2_; have HO215 := n3_; have HO218 := n4_; have BK190 := n5_; have BK191 := n6_; have BK192 := n7_; have HB := n8_; clear n0_ n1_ n2_ n3_ n4_ n5_ n6_ n7_ n8_; (try clear hb); (try clear hb2); (try clear hk); (try clear hi); (try clear ho0)) | ((with_reducible refine gate_callee (f := 25) rfl ?_); refine goesL_ (some 56) rfl rfl Try.func25 (by kernel_rfl) rfl #[.slice Ao61 y193.length co61, .int .i64 48, .int .i64 5, .int .i64 12] rfl (by (try simp only [List.map_toArray, List.map_cons, List.map_nil]); first | done | rfl | (simp only [List.length_drop, List.length_take]; rfl)) ?_; (with_reducible refine (staff_Take.calls _ _ y193 48 5 12 t220 t221 _ ?side1 ?side2 A14.out).mono ?_); (case side1 => repeat (first | exact (Kd.R_reads' HO195.out).2.2 | (with_reducible refine Kd.C_alloc ?_ _) | (with_reducible refine Kd.C_drewN ?_ _) | (with_reducible refine Kd.C_drew ?_))); (case side2 => exact (Kd.R_reads' HO195.out).2.1); rintro e w80 ⟨v222, rfl, ho0, hb⟩; refine ⟨_, rfl, ?_⟩; have n0_ := Aside0.mk (Kd.R_elder' (Kd.rU HO195.out) (Kd.R_base ho0) hb); have n1_ := Aside0.mk (Kd.R_elder' (Kd.rU HO199.out) (Kd.R_base ho0) hb); have n2_ := Aside0.mk (Kd.R_elder' (Kd.rU HO211.out) (Kd.R_base ho0) hb); have n3_ := Aside0.mk (Kd.R_elder' (Kd.rU HO215.out) (Kd.R_base ho0) hb); have n4_ := Aside0.mk (Kd.R_elder' (Kd.rU HO218.out) (Kd.R_base ho0) hb); have n5_ := Aside0.mk (Kd.R_lower (Kd.R_newB (Kd.R_newB (Kd.R_newB (Kd.R_new' (Kd.R_new' (Kd.R_new' (Kd.R_new' (Kd.R_new' ho0 (Kd.R_lt (Kd.rU HO195.out))) (Kd.R_lt (Kd.rU HO199.out))) (Kd.R_lt (Kd.rU HO211.out))) (Kd.R_lt (Kd.rU HO215.out))) (Kd.R_lt (Kd.rU HO218.out))) (bU BK190.out)) (bU BK191.out)) (bU BK192.out)) (below_size (hU HB.out))); have n6_ := Aside0.mk (blk_below (bU BK190.out) hb); have n7_ := Aside0.mk (blk_below (bU BK191.out) hb); have n8_ := Aside0.mk (blk_below (bU BK192.out) hb); have n9_ := Aside0.mk (below_step (hU HB.out) hb); clear HO195; clear HO199; clear HO211; clear HO215; clear HO218; clear BK190; clear BK191; clear BK192; clear HB; have HO195 := n0_; have HO199 := n1_; have HO211 := n2_; have HO215 := n3_; have HO218 := n4_; have HO223 := n5_; have BK190 := n6_; have BK191 := n7_; have BK192 := n8_; have HB := n9_; clear n0_ n1_ n2_ n3_ n4_ n5_ n6_ n7_ n8_ n9_; (try clear hb); (try clear hb2); (try clear hk); (try clear hi); (try clear ho0)) | ((with_reducible refine gate_callee (f := 25) rfl ?_); refine goesL_ (some 61) rfl rfl Try.func25 (by kernel_rfl) rfl #[.slice Ao61 y193.length co61, .int .i64 48, .int .i64 5, .int .i64 13] rfl (by (try simp only [List.map_toArray, List.map_cons, List.map_nil]); first | done | rfl | (simp only [List.length_drop, List.length_take]; rfl)) ?_; (with_reducible refine (staff_Take.calls _ _ y193 48 5 13 t224 t225 _ ?side1 ?side2 A15.out).mono ?_); (case side1 => repeat (first | exact (Kd.R_reads' HO195.out).2.2 | (with_reducible refine Kd.C_alloc ?_ _) | (with_reducible refine Kd.C_drewN ?_ _) | (with_reducible refine Kd.C_drew ?_))); (case side2 => exact (Kd.R_reads' HO195.out).2.1); rintro e w81 ⟨v226, rfl, ho0, hb⟩; refine ⟨_, rfl, ?_⟩; have n0_ := Aside0.mk (Kd.R_elder' (Kd.rU HO195.out) (Kd.R_base ho0) hb); have n1_ := Aside0.mk (Kd.R_elder' (Kd.rU HO199.out) (Kd.R_base ho0) hb); have n2_ := Aside0.mk (Kd.R_elder' (Kd.rU HO211.out) (Kd.R_base ho0) hb); have n3_ := Aside0.mk (Kd.R_elder' (Kd.rU HO215.out) (Kd.R_base ho0) hb); have n4_ := Aside0.mk (Kd.R_elder' (Kd.rU HO218.out) (Kd.R_base ho0) hb); have n5_ := Aside0.mk (Kd.R_elder' (Kd.rU HO223.out) (Kd.R_base ho0) hb); have n6_ := Aside0.mk (Kd.R_lower (Kd.R_newB (Kd.R_newB (Kd.R_newB (Kd.R_new' (Kd.R_new' (Kd.R_new' (Kd.R_new' (Kd.R_new' (Kd.R_new' ho0 (Kd.R_lt (Kd.rU HO195.out))) (Kd.R_lt (Kd.rU HO199.out))) (Kd.R_lt (Kd.rU HO211.out))) (Kd.R_lt (Kd.rU HO215.out))) (Kd.R_lt (Kd.rU HO218.out))) (Kd.R_lt (Kd.rU HO223.out))) (bU BK190.out)) (bU BK191.out)) (bU BK192.out)) (below_size (hU HB.out))); have n7_ := Aside0.mk (blk_below (bU BK190.out) hb); have n8_ := Aside0.mk (blk_below (bU BK191.out) hb); have n9_ := Aside0.mk (blk_below (bU BK192.out) hb); have n10_ := Aside0.mk (below_step (hU HB.out) hb); clear HO195; clear HO199; clear HO211; clear HO215; clear HO218; clear HO223; clear BK190; clear BK191; clear BK192; clear HB; have HO195 := n0_; have HO199 := n1_; have HO211 := n2_; have HO215 := n3_; have HO218 := n4_; have HO223 := n5_; have HO227 := n6_; have BK190 := n7_; have BK191 := n8_; have BK192 := n9_; have HB := n10_; clear n0_ n1_ n2_ n3_ n4_ n5_ n6_ n7_ n8_ n9_ n10_; (try clear hb); (try clear hb2); (try clear hk); (try clear hi); (try clear ho0); obtain ⟨Ao82, co82, eo82⟩ := Kd.R_slice HO218.out; subst eo82) | (go_at_call 27; (with_reducible refine (dancestudioref24_Same.calls k _ _ t216 _ _ y193 true _ ?side1 ?side2 ?side3 ?side4 A19.out).mono ?_); (case side1 => repeat (first | exact (Kd.R_reads' HO218.out).2.2 | (with_reducible refine Kd.C_alloc ?_ _) | (with_reducible refine Kd.C_drewN ?_ _) | (with_reducible refine Kd.C_drew ?_))); (case side2 => exact (Kd.R_reads' HO218.out).2.1); (case side3 => repeat (first | exact (Kd.R_reads' HO195.out).2.2 | (with_reducible refine Kd.C_alloc ?_ _) | (with_reducible refine Kd.C_drewN ?_ _) | (with_reducible refine Kd.C_drew ?_))); (case side4 => exact (Kd.R_reads' HO195.out).2.1); rintro e w' ⟨rfl, ⟨nd, rfl⟩⟩; have hcz83_0 := blk_cell BK190.out; have hfz83_0 := blk_frozen BK190.out; have hcz84_0 := blk_cell BK192.out; have hfz84_0 := blk_frozen BK192.out) | ((with_reducible refine gate_dst (N := 84) rfl ?_); (try (refine gate_guard (by rfl) ?_; dsimp only)); refine Kd.R_lit k29 _ 29 ?hg (N := 84) ?hd (xs := ([(⟨t169, t170, t171, t172, t173, t174, t175⟩ : S29), (⟨t183, t184, t185, t186, t187, t188, t189⟩ : S29)] : List (S29))) (inner := [.int .i64 t169, .int .i64 t170, .int .i64 t171, .int .i64 t172, .int .i64 t173, .int .i64 t174, .int .i64 t175, .int .i64 t183, .int .i64 t184, .int .i64 t185, .int .i64 t186, .int .i64 t187, .int .i64 t188, .int .i64 t189]) (ok := fun _ => True) (okp := fun _ => True) ?hr ?hp (fun _ hk => hk) trivial (Below.refl _ _) (Nat.le_refl _) (by simp) ?_; (case hd => rfl); (case hg => rfl); (case hr => first | (go_simp; done) | (go_simp; rfl)); (case hp => exact (Reps.c7 (show Kd.M k29 _ _ _ (⟨t169, t170, t171, t172, t173, t174, t175⟩ : S29) [.int .i64 t169, .int .i64 t170, .int .i64 t171, .int .i64 t172, .int .i64 t173, .int .i64 t174, .int .i64 t175] from (k29_mkM _ _ _ (⟨t169, t170, t171, t172, t173, t174, t175⟩ : S29) )) (Reps.c7 (show Kd.M k29 _ _ _ (⟨t183, t184, t185, t186, t187, t188, t189⟩ : S29) [.int .i64 t183, .int .i64 t184, .int .i64 t185, .int .i64 t186, .int .i64 t187, .int .i64 t188, .int .i64 t189] from (k29_mkM _ _ _ (⟨t183, t184, t185, t186, t187, t188, t189⟩ : S29) )) (Reps.none _ _)))); intro v230 w85 ho86 hb hg_ hnew_; clear hg_ hnew_; (first | rw [← Ny229.out] at ho86 | (simp only [Int.reduceToNat] at ho86; rw [← Ny229.out] at ho86)); have n0_ := Aside0.mk (Kd.R_elder' (Kd.rU HO195.out) (Kd.R_base ho86) hb); have n1_ := Aside0.mk (Kd.R_elder' (Kd.rU HO199.out) (Kd.R_base ho86) hb); have n2_ := Aside0.mk (Kd.R_elder' (Kd.rU HO211.out) (Kd.R_base ho86) hb); have n3_ := Aside0.mk (Kd.R_elder' (Kd.rU HO215.out) (Kd.R_base ho86) hb); have n4_ := Aside0.mk (Kd.R_elder' (Kd.rU HO218.out) (Kd.R_base ho86) hb); have n5_ := Aside0.mk (Kd.R_elder' (Kd.rU HO223.out) (Kd.R_base ho86) hb); have n6_ := Aside0.mk (Kd.R_elder' (Kd.rU HO227.out) (Kd.R_base ho86) hb); have n7_ := Aside0.mk (Kd.R_lower (Kd.R_newB (Kd.R_newB (Kd.R_newB (Kd.R_new' (Kd.R_new' (Kd.R_new' (Kd.R_new' (Kd.R_new' (Kd.R_new' (Kd.R_new' ho86 (Kd.R_lt (Kd.rU HO195.out))) (Kd.R_lt (Kd.rU HO199.out))) (Kd.R_lt (Kd.rU HO211.out))) (Kd.R_lt (Kd.rU HO215.out))) (Kd.R_lt (Kd.rU HO218.out))) (Kd.R_lt (Kd.rU HO223.out))) (Kd.R_lt (Kd.rU HO227.out))) (bU BK190.out)) (bU BK191.out)) (bU BK192.out)) (below_size (hU HB.out))); have n8_ := Aside0.mk (blk_below (bU BK190.out) hb); have n9_ := Aside0.mk (blk_below (bU BK191.out) hb); have n10_ := Aside0.mk (blk_below (bU BK192.out) hb); have n11_ := Aside0.mk (below_step (hU HB.out) hb); clear HO195; clear HO199; clear HO211; clear HO215; clear HO218; clear HO223; clear HO227; clear BK190; clear BK191; clear BK192; clear HB; have HO195 := n0_; have HO199 := n1_; have HO211 := n2_; have HO215 := n3_; have HO218 := n4_; have HO223 := n5_; have HO227 := n6_; have HO231 := n7_; have BK190 := n8_; have BK191 := n9_; have BK192 := n10_; have HB := n11_; clear n0_ n1_ n2_ n3_ n4_ n5_ n6_ n7_ n8_ n9_ n10_ n11_; clear hb ho86; obtain ⟨Ao87, co87, eo87⟩ := Kd.R_slice HO223.out; subst eo87; obtain ⟨Ao88, co88, eo88⟩ := Kd.R_slice HO231.out; subst eo88) | (go_at_call 27; (with_reducible refine (dancestudioref24_Same.calls k _ _ t220 _ _ y229 true _ ?side1 ?side2 ?side3 ?side4 A21.out).mono ?_); (case side1 => repeat (first | exact (Kd.R_reads' HO223.out).2.2 | (with_reducible refine Kd.C_alloc ?_ _) | (with_reducible refine Kd.C_drewN ?_ _) | (with_reducible refine Kd.C_drew ?_))); (case side2 => exact (Kd.R_reads' HO223.out).2.1); (case side3 => repeat (first | exact (Kd.R_reads' HO231.out).2.2 | (with_reducible refine Kd.C_alloc ?_ _) | (with_reducible refine Kd.C_drewN ?_ _) | (with_reducible refine Kd.C_drew ?_))); (case side4 => exact (Kd.R_reads' HO231.out).2.1); rintro e w' ⟨rfl, ⟨nd, rfl⟩⟩) | ((with_reducible refine gate_callee (f := 30) rfl ?_); refine goesL_ (some 90) rfl rfl Try.func30 (by kernel_rfl) rfl #[.slice Ao61 y193.length co61, .int .i64 48, .int .i64 5, .int .i64 35] rfl (by (try simp only [List.map_toArray, List.map_cons, List.map_nil]); first | done | rfl | (simp only [List.length_drop, List.length_take]; rfl)) ?_; (with_reducible refine (staff_At.calls _ _ y193 48 5 35 t233 t234 _ ?side1 ?side2 A23.out).mono ?_); (case side1 => repeat (first | exact (Kd.R_reads' HO195.out).2.2 | (with_reducible refine Kd.C_alloc ?_ _) | (with_reducible refine Kd.C_drewN ?_ _) | (with_reducible refine Kd.C_drew ?_))); (case side2 => exact (Kd.R_reads' HO195.out).2.1); rintro e w89 ⟨rfl, hb⟩; refine ⟨_, rfl, ?_⟩; have n0_ := Aside0.mk (Kd.R_below (Kd.rU HO195.out) hb); have n1_ := Aside0.mk (Kd.R_below (Kd.rU HO199.out) hb); have n2_ := Aside0.mk (Kd.R_below (Kd.rU HO211.out) hb); have n3_ := Aside0.mk (Kd.R_below (Kd.rU HO215.out) hb); have n4_ := Aside0.mk (Kd.R_below (Kd.rU HO218.out) hb); have n5_ := Aside0.mk (Kd.R_below (Kd.rU HO223.out) hb); have n6_ := Aside0.mk (Kd.R_below (Kd.rU HO227.out) hb); have n7_ := Aside0.mk (Kd.R_below (Kd.rU HO231.out) hb); have n8_ := Aside0.mk (blk_below (bU BK190.out) hb); have n9_ := Aside0.mk (blk_below (bU BK191.out) hb); have n10_ := Aside0.mk (blk_below (bU BK192.out) hb); have n11_ := Aside0.mk (below_step (hU HB.out) hb); clear HO195; clear HO199; clear HO211; clear HO215; clear HO218; clear HO223; clear HO227; clear HO231; clear BK190; clear BK191; clear BK192; clear HB; have HO195 := n0_; have HO199 := n1_; have HO211 := n2_; have HO215 := n3_; have HO218 := n4_; have HO223 := n5_; have HO227 := n6_; have HO231 := n7_; have BK190 := n8_; have BK191 := n9_; have BK192 := n10_; have HB := n11_; clear n0_ n1_ n2_ n3_ n4_ n5_ n6_ n7_ n8_ n9_ n10_ n11_; (try clear hb); (try clear hb2); (try clear hk); (try clear hi)) | ((with_reducible refine gate_callee (f := 30) rfl ?_); refine goesL_ (some 95) rfl rfl Try.func30 (by kernel_rfl) rfl #[.slice Ao61 y193.length co61, .int .i64 48, .int .i64 5, .int .i64 36] rfl (by (try simp only [List.map_toArray, List.map_cons, List.map_nil]); first | done | rfl | (simp only [List.length_drop, List.length_take]; rfl)) ?_; (with_reducible refine (staff_At.calls _ _ y193 48 5 36 t235 t236 _ ?side1 ?side2 A24.out).mono ?_); (case side1 => repeat (first | exact (Kd.R_reads' HO195.out).2.2 | (with_reducible refine Kd.C_alloc ?_ _) | (with_reducible refine Kd.C_drewN ?_ _) | (with_reducible refine Kd.C_drew ?_))); (case side2 => exact (Kd.R_reads' HO195.out).2.1); rintro e w90 ⟨rfl, hb⟩; refine ⟨_, rfl, ?_⟩; have n0_ := Aside0.mk (Kd.R_below (Kd.rU HO195.out) hb); have n1_ := Aside0.mk (Kd.R_below (Kd.rU HO199.out) hb); have n2_ := Aside0.mk (Kd.R_below (Kd.rU HO211.out) hb); have n3_ := Aside0.mk (Kd.R_below (Kd.rU HO215.out) hb); have n4_ := Aside0.mk (Kd.R_below (Kd.rU HO218.out) hb); have n5_ := Aside0.mk (Kd.R_below (Kd.rU HO223.out) hb); have n6_ := Aside0.mk (Kd.R_below (Kd.rU HO227.out) hb); have n7_ := Aside0.mk (Kd.R_below (Kd.rU HO231.out) hb); have n8_ := Aside0.mk (blk_below (bU BK190.out) hb); have n9_ := Aside0.mk (blk_below (bU BK191.out) hb); have n10_ := Aside0.mk (blk_below (bU BK192.out) hb); have n11_ := Aside0.mk (below_step (hU HB.out) hb); clear HO195; clear HO199; clear HO211; clear HO215; clear HO218; clear HO223; clear HO227; clear HO231; clear BK190; clear BK191; clear BK192; clear HB; have HO195 := n0_; have HO199 := n1_; have HO211 := n2_; have HO215 := n3_; have HO218 := n4_; have HO223 := n5_; have HO227 := n6_; have HO231 := n7_; have BK190 := n8_; have BK191 := n9_; have BK192 := n10_; have HB := n11_; clear n0_ n1_ n2_ n3_ n4_ n5_ n6_ n7_ n8_ n9_ n10_ n11_; (try clear hb); (try clear hb2); (try clear hk); (try clear hi)) | ((with_reducible refine gate_callee (f := 30) rfl ?_); refine goesL_ (some 100) rfl rfl Try.func30 (by kernel_rfl) rfl #[.slice Ao61 y193.length co61, .int .i64 48, .int .i64 9, .int .i64 0] rfl (by (try simp only [List.map_toArray, List.map_cons, List.map_nil]); first | done | rfl | (simp only [List.length_drop, List.length_take]; rfl)) ?_; (with_reducible refine (staff_At.calls _ _ y193 48 9 0 t237 t238 _ ?side1 ?side2 A25.out).mono ?_); (case side1 => repeat (first | exact (Kd.R_reads' HO195.out).2.2 | (with_reducible refine Kd.C_alloc ?_ _) | (with_reducible refine Kd.C_drewN ?_ _) | (with_reducible refine Kd.C_drew ?_))); (case side2 => exact (Kd.R_reads' HO195.out).2.1); rintro e w91 ⟨rfl, hb⟩; refine ⟨_, rfl, ?_⟩; have n0_ := Aside0.mk (Kd.R_below (Kd.rU HO195.out) hb); have n1_ := Aside0.mk (Kd.R_below (Kd.rU HO199.out) hb); have n2_ := Aside0.mk (Kd.R_below (Kd.rU HO211.out) hb); have n3_ := Aside0.mk (Kd.R_below (Kd.rU HO215.out) hb); have n4_ := Aside0.mk (Kd.R_below (Kd.rU HO218.out) hb); have n5_ := Aside0.mk (Kd.R_below (Kd.rU HO223.out) hb); have n6_ := Aside0.mk (Kd.R_below (Kd.rU HO227.out) hb); have n7_ := Aside0.mk (Kd.R_below (Kd.rU HO231.out) hb); have n8_ := Aside0.mk (blk_below (bU BK190.out) hb); have n9_ := Aside0.mk (blk_below (bU BK191.out) hb); have n10_ := Aside0.mk (blk_below (bU BK192.out) hb); have n11_ := Aside0.mk (below_step (hU HB.out) hb); clear HO195; clear HO199; clear HO211; clear HO215; clear HO218; clear HO223; clear HO227; clear HO231; clear BK190; clear BK191; clear BK192; clear HB; have HO195 := n0_; have HO199 := n1_; have HO211 := n2_; have HO215 := n3_; have HO218 := n4_; have HO223 := n5_; have HO227 := n6_; have HO231 := n7_; have BK190 := n8_; have BK191 := n9_; have BK192 := n10_; have HB := n11_; clear n0_ n1_ n2_ n3_ n4_ n5_ n6_ n7_ n8_ n9_ n10_ n11_; (try clear hb); (try clear hb2); (try clear hk); (try clear hi); have hcz92_0 := blk_cell BK190.out; have hfz92_0 := blk_frozen BK190.out; have hcz93_0 := blk_cell BK192.out; have hfz93_0 := blk_frozen BK192.out) | ((with_reducible refine gate_dst (N := 124) rfl ?_); (try (refine gate_guard (by rfl) ?_; dsimp only)); refine Kd.R_lit k29 _ 29 ?hg (N := 124) ?hd (xs := ([(⟨t169, t170, t171, t172, t173, t174, t175⟩ : S29), (⟨t183, t184, t185, t186, t187, t188, t189⟩ : S29)] : List (S29))) (inner := [.int .i64 t169, .int .i64 t170, .int .i64 t171, .int .i64 t172, .int .i64 t173, .int .i64 t174, .int .i64 t175, .int .i64 t183, .int .i64 t184, .int .i64 t185, .int .i64 t186, .int .i64 t187, .int .i64 t188, .int .i64 t189]) (ok := fun _ => True) (okp := fun _ => True) ?hr ?hp (fun _ hk => hk) trivial (Below.refl _ _) (Nat.le_refl _) (by simp) ?_; (case hd => rfl); (case hg => rfl); (case hr => first | (go_simp; done) | (go_simp; rfl)); (case hp => exact (Reps.c7 (show Kd.M k29 _ _ _ (⟨t169, t170, t171, t172, t173, t174, t175⟩ : S29) [.int .i64 t169, .int .i64 t170, .int .i64 t171, .int .i64 t172, .int .i64 t173, .int .i64 t174, .int .i64 t175] from (k29_mkM _ _ _ (⟨t169, t170, t171, t172, t173, t174, t175⟩ : S29) )) (Reps.c7 (show Kd.M k29 _ _ _ (⟨t183, t184, t185, t186, t187, t188, t189⟩ : S29) [.int .i64 t183, .int .i64 t184, .int .i64 t185, .int .i64 t186, .int .i64 t187, .int .i64 t188, .int .i64 t189] from (k29_mkM _ _ _ (⟨t183, t184, t185, t186, t187, t188, t189⟩ : S29) )) (Reps.none _ _)))); intro v240 w94 ho95 hb hg_ hnew_; clear hg_ hnew_; (first | rw [← Ny239.out] at ho95 | (simp only [Int.reduceToNat] at ho95; rw [← Ny239.out] at ho95)); have n0_ := Aside0.mk (Kd.R_elder' (Kd.rU HO195.out) (Kd.R_base ho95) hb); have n1_ := Aside0.mk (Kd.R_elder' (Kd.rU HO199.out) (Kd.R_base ho95) hb); have n2_ := Aside0.mk (Kd.R_elder' (Kd.rU HO211.out) (Kd.R_base ho95) hb); have n3_ := Aside0.mk (Kd.R_elder' (Kd.rU HO215.out) (Kd.R_base ho95) hb); have n4_ := Aside0.mk (Kd.R_elder' (Kd.rU HO218.out) (Kd.R_base ho95) hb); have n5_ := Aside0.mk (Kd.R_elder' (Kd.rU HO223.out) (Kd.R_base ho95) hb); have n6_ := Aside0.mk (Kd.R_elder' (Kd.rU HO227.out) (Kd.R_base ho95) hb); have n7_ := Aside0.mk (Kd.R_elder' (Kd.rU HO231.out) (Kd.R_base ho95) hb); have n8_ := Aside0.mk (Kd.R_lower (Kd.R_newB (Kd.R_newB (Kd.R_newB (Kd.R_new' (Kd.R_new' (Kd.R_new' (Kd.R_new' (Kd.R_new' (Kd.R_new' (Kd.R_new' (Kd.R_new' ho95 (Kd.R_lt (Kd.rU HO195.out))) (Kd.R_lt (Kd.rU HO199.out))) (Kd.R_lt (Kd.rU HO211.out))) (Kd.R_lt (Kd.rU HO215.out))) (Kd.R_lt (Kd.rU HO218.out))) (Kd.R_lt (Kd.rU HO223.out))) (Kd.R_lt (Kd.rU HO227.out))) (Kd.R_lt (Kd.rU HO231.out))) (bU BK190.out)) (bU BK191.out)) (bU BK192.out)) (below_size (hU HB.out))); have n9_ := Aside0.mk (blk_below (bU BK190.out) hb); have n10_ := Aside0.mk (blk_below (bU BK191.out) hb); have n11_ := Aside0.mk (blk_below (bU BK192.out) hb); have n12_ := Aside0.mk (below_step (hU HB.out) hb); clear HO195; clear HO199; clear HO211; clear HO215; clear HO218; clear HO223; clear HO227; clear HO231; clear BK190; clear BK191; clear BK192; clear HB; have HO195 := n0_; have HO199 := n1_; have HO211 := n2_; have HO215 := n3_; have HO218 := n4_; have HO223 := n5_; have HO227 := n6_; have HO231 := n7_; have HO241 := n8_; have BK190 := n9_; have BK191 := n10_; have BK192 := n11_; have HB := n12_; clear n0_ n1_ n2_ n3_ n4_ n5_ n6_ n7_ n8_ n9_ n10_ n11_ n12_; clear hb ho95; obtain ⟨Ao96, co96, eo96⟩ := Kd.R_slice HO241.out; subst eo96) | ((with_reducible refine gate_callee (f := 34) rfl ?_); refine goesL_ (some 126) rfl rfl Try.func34 (by kernel_rfl) rfl #[.slice Ao96 y239.length co96, .int .i64 48, .agg #[.int .i64 24, .int .i64 48]] rfl (by (try simp only [List.map_toArray, List.map_cons, List.map_nil]); first | done | rfl | (simp only [List.length_drop, List.length_take]; rfl)) ?_; (with_reducible refine (staff_Cut.calls _ _ y239 48 24 48 t242 t245 _ ?side1 ?side2 A31.out).mono ?_); (case side1 => repeat (first | exact (Kd.R_reads' HO241.out).2.2 | (with_reducible refine Kd.C_alloc ?_ _) | (with_reducible refine Kd.C_drewN ?_ _) | (with_reducible refine Kd.C_drew ?_))); (case side2 => exact (Kd.R_reads' HO241.out).2.1); rintro e w97 ⟨v243, rfl, ho0, hb⟩; refine ⟨_, rfl, ?_⟩; have n0_ := Aside0.mk (Kd.R_elder' (Kd.rU HO195.out) (Kd.R_base ho0) hb); have n1_ := Aside0.mk (Kd.R_elder' (Kd.rU HO199.out) (Kd.R_base ho0) hb); have n2_ := Aside0.mk (Kd.R_elder' (Kd.rU HO211.out) (Kd.R_base ho0) hb); have n3_ := Aside0.mk (Kd.R_elder' (Kd.rU HO215.out) (Kd.R_base ho0) hb); have n4_ := Aside0.mk (Kd.R_elder' (Kd.rU HO218.out) (Kd.R_base ho0) hb); have n5_ := Aside0.mk (Kd.R_elder' (Kd.rU HO223.out) (Kd.R_base ho0) hb); have n6_ := Aside0.mk (Kd.R_elder' (Kd.rU HO227.out) (Kd.R_base ho0) hb); have n7_ := Aside0.mk (Kd.R_elder' (Kd.rU HO231.out) (Kd.R_base ho0) hb); have n8_ := Aside0.mk (Kd.R_elder' (Kd.rU HO241.out) (Kd.R_base ho0) hb); have n9_ := Aside0.mk (Kd.R_lower (Kd.R_newB (Kd.R_newB (Kd.R_newB (Kd.R_new' (Kd.R_new' (Kd.R_new' (Kd.R_new' (Kd.R_new' (Kd.R_new' (Kd.R_new' (Kd.R_new' (Kd.R_new' ho0 (Kd.R_lt (Kd.rU HO195.out))) (Kd.R_lt (Kd.rU HO199.out))) (Kd.R_lt (Kd.rU HO211.out))) (Kd.R_lt (Kd.rU HO215.out))) (Kd.R_lt (Kd.rU HO218.out))) (Kd.R_lt (Kd.rU HO223.out))) (Kd.R_lt (Kd.rU HO227.out))) (Kd.R_lt (Kd.rU HO231.out))) (Kd.R_lt (Kd.rU HO241.out))) (bU BK190.out)) (bU BK191.out)) (bU BK192.out)) (below_size (hU HB.out))); have n10_ := Aside0.mk (blk_below (bU BK190.out) hb); have n11_ := Aside0.mk (blk_below (bU BK191.out) hb); have n12_ := Aside0.mk (blk_below (bU BK192.out) hb); have n13_ := Aside0.mk (below_step (hU HB.out) hb); clear HO195; clear HO199; clear HO211; clear HO215; clear HO218; clear HO223; clear HO227; clear HO231; clear HO241; clear BK190; clear BK191; clear BK192; clear HB; have HO195 := n0_; have HO199 := n1_; have HO211 := n2_; have HO215 := n3_; have HO218 := n4_; have HO223 := n5_; have HO227 := n6_; have HO231 := n7_; have HO241 := n8_; have HO244 := n9_; have BK190 := n10_; have BK191 := n11_; have BK192 := n12_; have HB := n13_; clear n0_ n1_ n2_ n3_ n4_ n5_ n6_ n7_ n8_ n9_ n10_ n11_ n12_ n13_; (try clear hb); (try clear hb2); (try clear hk); (try clear hi); (try clear ho0)) | ((with_reducible refine gate_callee (f := 34) rfl ?_); refine goesL_ (some 132) rfl rfl Try.func34 (by kernel_rfl) rfl #[.slice Ao61 y193.length co61, .int .i64 48, .agg #[.int .i64 0, .int .i64 24]] rfl (by (try simp only [List.map_toArray, List.map_cons, List.map_nil]); first | done | rfl | (simp only [List.length_drop, List.length_take]; rfl)) ?_; (with_reducible refine (staff_Cut.calls _ _ y193 48 0 24 t246 t249 _ ?side1 ?side2 A32.out).mono ?_); (case side1 => repeat (first | exact (Kd.R_reads' HO195.out).2.2 | (with_reducible refine Kd.C_alloc ?_ _) | (with_reducible refine Kd.C_drewN ?_ _) | (with_reducible refine Kd.C_drew ?_))); (case side2 => exact (Kd.R_reads' HO195.out).2.1); rintro e w98 ⟨v247, rfl, ho0, hb⟩; refine ⟨_, rfl, ?_⟩; have n0_ := Aside0.mk (Kd.R_elder' (Kd.rU HO195.out) (Kd.R_base ho0) hb); have n1_ := Aside0.mk (Kd.R_elder' (Kd.rU HO199.out) (Kd.R_base ho0) hb); have n2_ := Aside0.mk (Kd.R_elder' (Kd.rU HO211.out) (Kd.R_base ho0) hb); have n3_ := Aside0.mk (Kd.R_elder' (Kd.rU HO215.out) (Kd.R_base ho0) hb); have n4_ := Aside0.mk (Kd.R_elder' (Kd.rU HO218.out) (Kd.R_base ho0) hb); have n5_ := Aside0.mk (Kd.R_elder' (Kd.rU HO223.out) (Kd.R_base ho0) hb); have n6_ := Aside0.mk (Kd.R_elder' (Kd.rU HO227.out) (Kd.R_base ho0) hb); have n7_ := Aside0.mk (Kd.R_elder' (Kd.rU HO231.out) (Kd.R_base ho0) hb); have n8_ := Aside0.mk (Kd.R_elder' (Kd.rU HO241.out) (Kd.R_base ho0) hb); have n9_ := Aside0.mk (Kd.R_elder' (Kd.rU HO244.out) (Kd.R_base ho0) hb); have n10_ := Aside0.mk (Kd.R_lower (Kd.R_newB (Kd.R_newB (Kd.R_newB (Kd.R_new' (Kd.R_new' (Kd.R_new' (Kd.R_new' (Kd.R_new' (Kd.R_new' (Kd.R_new' (Kd.R_new' (Kd.R_new' (Kd.R_new' ho0 (Kd.R_lt (Kd.rU HO195.out))) (Kd.R_lt (Kd.rU HO199.out))) (Kd.R_lt (Kd.rU HO211.out))) (Kd.R_lt (Kd.rU HO215.out))) (Kd.R_lt (Kd.rU HO218.out))) (Kd.R_lt (Kd.rU HO223.out))) (Kd.R_lt (Kd.rU HO227.out))) (Kd.R_lt (Kd.rU HO231.out))) (Kd.R_lt (Kd.rU HO241.out))) (Kd.R_lt (Kd.rU HO244.out))) (bU BK190.out)) (bU BK191.out)) (bU BK192.out)) (below_size (hU HB.out))); have n11_ := Aside0.mk (blk_below (bU BK190.out) hb); have n12_ := Aside0.mk (blk_below (bU BK191.out) hb); have n13_ := Aside0.mk (blk_below (bU BK192.out) hb); have n14_ := Aside0.mk (below_step (hU HB.out) hb); clear HO195; clear HO199; clear HO211; clear HO215; clear HO218; clear HO223; clear HO227; clear HO231; clear HO241; clear HO244; clear BK190; clear BK191; clear BK192; clear HB; have HO195 := n0_; have HO199 := n1_; have HO211 := n2_; have HO215 := n3_; have HO218 := n4_; have HO223 := n5_; have HO227 := n6_; have HO231 := n7_; have HO241 := n8_; have HO244 := n9_; have HO248 := n10_; have BK190 := n11_; have BK191 := n12_; have BK192 := n13_; have HB := n14_; clear n0_ n1_ n2_ n3_ n4_ n5_ n6_ n7_ n8_ n9_ n10_ n11_ n12_ n13_ n14_; (try clear hb); (try clear hb2); (try clear hk); (try clear hi); (try clear ho0)))
                     have n0_ := Aside0.mk (Kd.R_drew HO195.out)
                     have n1_ := Aside0.mk (Kd.R_drew HO199.out)
                     have n2_ := Aside0.mk (Kd.R_drew HO211.out)
                     have n3_ := Aside0.mk (Kd.R_drew HO215.out)
                     have n4_ := Aside0.mk (Kd.R_drew HO218.out)
                     have n5_ := Aside0.mk (Kd.R_drew HO223.out)
                     have n6_ := Aside0.mk (Kd.R_drew HO227.out)
                     have n7_ := Aside0.mk (Kd.R_drew HO231.out)
                     have n8_ := Aside0.mk (Kd.R_drew HO241.out)
                     have n9_ := Aside0.mk (Kd.R_drew HO244.out)
                     have n10_ := Aside0.mk (Kd.R_drew HO248.out)
                     have n11_ := Aside0.mk (blk_drew BK190.out)
                     have n12_ := Aside0.mk (blk_drew BK191.out)
                     have n13_ := Aside0.mk (blk_drew BK192.out)
                     have n14_ := Aside0.mk (below_drew1 HB.out)
                     clear HO195
                     clear HO199
                     clear HO211
                     clear HO215
                     clear HO218
                     clear HO223
                     clear HO227
                     clear HO231
                     clear HO241
                     clear HO244
                     clear HO248
                     clear BK190
                     clear BK191
                     clear BK192
                     clear HB
                     have HO195 := n0_
                     have HO199 := n1_
                     have HO211 := n2_
                     have HO215 := n3_
                     have HO218 := n4_
                     have HO223 := n5_
                     have HO227 := n6_
                     have HO231 := n7_
                     have HO241 := n8_
                     have HO244 := n9_
                     have HO248 := n10_
                     have BK190 := n11_
                     have BK191 := n12_
                     have BK192 := n13_
                     have HB := n14_
                     clear n0_ n1_ n2_ n3_ n4_ n5_ n6_ n7_ n8_ n9_ n10_ n11_ n12_ n13_ n14_
                     refine start_ (n := 10) (S := fun w' => True) (ds := []) #[false, false, false, false, false, false, false, false, false, false] (by kernel_rfl) rfl rfl trivial (fun hHeld => ?_); refine with_tabW dancestudiolaw24_awake.tab17 dancestudiolaw24_awake.bits17 (fun HT_ HW_ => ?_)
                     generalize w98.drew = w99 at HO195 HO199 HO211 HO215 HO218 HO223 HO227 HO231 HO241 HO244 HO248 BK190 BK191 BK192 HB hHeld ⊢
                     refine inv_at [0, 1, 2, 3, 4, 5, 6, 7, 8, 9] (fun a0_ b a w' => ∃ (v251 : Value) (v261 : Value) (v265 : Value) (m4_ : Value) (m5_ : Value) (m6_ : Value) (m8_ : Value), a = putSel a0_ b [(0, 136, .agg #[.int .i64 t169, .int .i64 t170, .int .i64 t171, .int .i64 t172, .int .i64 t173, .int .i64 t174, .int .i64 t175]), (1, 137, v251), (2, 138, .agg #[.int .i64 t253, .int .i64 t254, .int .i64 t255, .int .i64 t256, .int .i64 t257, .int .i64 t258, .int .i64 t259]), (3, 139, v261), (4, 140, m4_), (5, 135, m5_), (6, 141, m6_), (7, 142, .int .i64 t264), (8, 14, m8_), (9, 10, .int .i64 t264)] ∧ (Kd.R k29 29 w' w.heap.size (fun k_ => some k_ ≠ (.slice Ao65 y197.length co65 : Value).ownBlock ∧ some k_ ≠ (.slice Ao71 y209.length co71 : Value).ownBlock ∧ some k_ ≠ (.slice Ao78 y213.length co78 : Value).ownBlock ∧ some k_ ≠ (.slice Ao82 t216.length co82 : Value).ownBlock ∧ some k_ ≠ (.slice Ao87 t220.length co87 : Value).ownBlock ∧ some k_ ≠ (v226 : Value).ownBlock ∧ some k_ ≠ (.slice Ao88 y229.length co88 : Value).ownBlock ∧ some k_ ≠ (.slice Ao96 y239.length co96 : Value).ownBlock ∧ some k_ ≠ (v243 : Value).ownBlock ∧ some k_ ≠ (v247 : Value).ownBlock ∧ k_ ≠ gb190 ∧ k_ ≠ gb191 ∧ k_ ≠ gb192) (.slice Ao61 y193.length co61) y193) ∧ (Kd.R k29 29 w' w.heap.size (fun k_ => some k_ ≠ (.slice Ao61 y193.length co61 : Value).ownBlock ∧ some k_ ≠ (.slice Ao71 y209.length co71 : Value).ownBlock ∧ some k_ ≠ (.slice Ao78 y213.length co78 : Value).ownBlock ∧ some k_ ≠ (.slice Ao82 t216.length co82 : Value).ownBlock ∧ some k_ ≠ (.slice Ao87 t220.length co87 : Value).ownBlock ∧ some k_ ≠ (v226 : Value).ownBlock ∧ some k_ ≠ (.slice Ao88 y229.length co88 : Value).ownBlock ∧ some k_ ≠ (.slice Ao96 y239.length co96 : Value).ownBlock ∧ some k_ ≠ (v243 : Value).ownBlock ∧ some k_ ≠ (v247 : Value).ownBlock ∧ k_ ≠ gb190 ∧ k_ ≠ gb191 ∧ k_ ≠ gb192) (.slice Ao65 y197.length co65) y197) ∧ (Kd.R k29 29 w' w.heap.size (fun k_ => some k_ ≠ (.slice Ao61 y193.length co61 : Value).ownBlock ∧ some k_ ≠ (.slice Ao65 y197.length co65 : Value).ownBlock ∧ some k_ ≠ (.slice Ao78 y213.length co78 : Value).ownBlock ∧ some k_ ≠ (.slice Ao82 t216.length co82 : Value).ownBlock ∧ some k_ ≠ (.slice Ao87 t220.length co87 : Value).ownBlock ∧ some k_ ≠ (v226 : Value).ownBlock ∧ some k_ ≠ (.slice Ao88 y229.length co88 : Value).ownBlock ∧ some k_ ≠ (.slice Ao96 y239.length co96 : Value).ownBlock ∧ some k_ ≠ (v243 : Value).ownBlock ∧ some k_ ≠ (v247 : Value).ownBlock ∧ k_ ≠ gb190 ∧ k_ ≠ gb191 ∧ k_ ≠ gb192) (.slice Ao71 y209.length co71) y209) ∧ (Kd.R k29 29 w' w.heap.size (fun k_ => some k_ ≠ (.slice Ao61 y193.length co61 : Value).ownBlock ∧ some k_ ≠ (.slice Ao65 y197.length co65 : Value).ownBlock ∧ some k_ ≠ (.slice Ao71 y209.length co71 : Value).ownBlock ∧ some k_ ≠ (.slice Ao82 t216.length co82 : Value).ownBlock ∧ some k_ ≠ (.slice Ao87 t220.length co87 : Value).ownBlock ∧ some k_ ≠ (v226 : Value).ownBlock ∧ some k_ ≠ (.slice Ao88 y229.length co88 : Value).ownBlock ∧ some k_ ≠ (.slice Ao96 y239.length co96 : Value).ownBlock ∧ some k_ ≠ (v243 : Value).ownBlock ∧ some k_ ≠ (v247 : Value).ownBlock ∧ k_ ≠ gb190 ∧ k_ ≠ gb191 ∧ k_ ≠ gb192) (.slice Ao78 y213.length co78) y213) ∧ (Kd.R k29 29 w' w.heap.size (fun k_ => some k_ ≠ (.slice Ao61 y193.length co61 : Value).ownBlock ∧ some k_ ≠ (.slice Ao65 y197.length co65 : Value).ownBlock ∧ some k_ ≠ (.slice Ao71 y209.length co71 : Value).ownBlock ∧ some k_ ≠ (.slice Ao78 y213.length co78 : Value).ownBlock ∧ some k_ ≠ (.slice Ao87 t220.length co87 : Value).ownBlock ∧ some k_ ≠ (v226 : Value).ownBlock ∧ some k_ ≠ (.slice Ao88 y229.length co88 : Value).ownBlock ∧ some k_ ≠ (.slice Ao96 y239.length co96 : Value).ownBlock ∧ some k_ ≠ (v243 : Value).ownBlock ∧ some k_ ≠ (v247 : Value).ownBlock ∧ k_ ≠ gb190 ∧ k_ ≠ gb191 ∧ k_ ≠ gb192) (.slice Ao82 t216.length co82) t216) ∧ (Kd.R k29 29 w' w.heap.size (fun k_ => some k_ ≠ (.slice Ao61 y193.length co61 : Value).ownBlock ∧ some k_ ≠ (.slice Ao65 y197.length co65 : Value).ownBlock ∧ some k_ ≠ (.slice Ao71 y209.length co71 : Value).ownBlock ∧ some k_ ≠ (.slice Ao78 y213.length co78 : Value).ownBlock ∧ some k_ ≠ (.slice Ao82 t216.length co82 : Value).ownBlock ∧ some k_ ≠ (v226 : Value).ownBlock ∧ some k_ ≠ (.slice Ao88 y229.length co88 : Value).ownBlock ∧ some k_ ≠ (.slice Ao96 y239.length co96 : Value).ownBlock ∧ some k_ ≠ (v243 : Value).ownBlock ∧ some k_ ≠ (v247 : Value).ownBlock ∧ k_ ≠ gb190 ∧ k_ ≠ gb191 ∧ k_ ≠ gb192) (.slice Ao87 t220.length co87) t220) ∧ (Kd.R k29 29 w' w.heap.size (fun k_ => some k_ ≠ (.slice Ao61 y193.length co61 : Value).ownBlock ∧ some k_ ≠ (.slice Ao65 y197.length co65 : Value).ownBlock ∧ some k_ ≠ (.slice Ao71 y209.length co71 : Value).ownBlock ∧ some k_ ≠ (.slice Ao78 y213.length co78 : Value).ownBlock ∧ some k_ ≠ (.slice Ao82 t216.length co82 : Value).ownBlock ∧ some k_ ≠ (.slice Ao87 t220.length co87 : Value).ownBlock ∧ some k_ ≠ (.slice Ao88 y229.length co88 : Value).ownBlock ∧ some k_ ≠ (.slice Ao96 y239.length co96 : Value).ownBlock ∧ some k_ ≠ (v243 : Value).ownBlock ∧ some k_ ≠ (v247 : Value).ownBlock ∧ k_ ≠ gb190 ∧ k_ ≠ gb191 ∧ k_ ≠ gb192) v226 t224) ∧ (Kd.R k29 29 w' w.heap.size (fun k_ => some k_ ≠ (.slice Ao61 y193.length co61 : Value).ownBlock ∧ some k_ ≠ (.slice Ao65 y197.length co65 : Value).ownBlock ∧ some k_ ≠ (.slice Ao71 y209.length co71 : Value).ownBlock ∧ some k_ ≠ (.slice Ao78 y213.length co78 : Value).ownBlock ∧ some k_ ≠ (.slice Ao82 t216.length co82 : Value).ownBlock ∧ some k_ ≠ (.slice Ao87 t220.length co87 : Value).ownBlock ∧ some k_ ≠ (v226 : Value).ownBlock ∧ some k_ ≠ (.slice Ao96 y239.length co96 : Value).ownBlock ∧ some k_ ≠ (v243 : Value).ownBlock ∧ some k_ ≠ (v247 : Value).ownBlock ∧ k_ ≠ gb190 ∧ k_ ≠ gb191 ∧ k_ ≠ gb192) (.slice Ao88 y229.length co88) y229) ∧ (Kd.R k29 29 w' w.heap.size (fun k_ => some k_ ≠ (.slice Ao61 y193.length co61 : Value).ownBlock ∧ some k_ ≠ (.slice Ao65 y197.length co65 : Value).ownBlock ∧ some k_ ≠ (.slice Ao71 y209.length co71 : Value).ownBlock ∧ some k_ ≠ (.slice Ao78 y213.length co78 : Value).ownBlock ∧ some k_ ≠ (.slice Ao82 t216.length co82 : Value).ownBlock ∧ some k_ ≠ (.slice Ao87 t220.length co87 : Value).ownBlock ∧ some k_ ≠ (v226 : Value).ownBlock ∧ some k_ ≠ (.slice Ao88 y229.length co88 : Value).ownBlock ∧ some k_ ≠ (v243 : Value).ownBlock ∧ some k_ ≠ (v247 : Value).ownBlock ∧ k_ ≠ gb190 ∧ k_ ≠ gb191 ∧ k_ ≠ gb192) (.slice Ao96 y239.length co96) y239) ∧ (Kd.R k29 29 w' w.heap.size (fun k_ => some k_ ≠ (.slice Ao61 y193.length co61 : Value).ownBlock ∧ some k_ ≠ (.slice Ao65 y197.length co65 : Value).ownBlock ∧ some k_ ≠ (.slice Ao71 y209.length co71 : Value).ownBlock ∧ some k_ ≠ (.slice Ao78 y213.length co78 : Value).ownBlock ∧ some k_ ≠ (.slice Ao82 t216.length co82 : Value).ownBlock ∧ some k_ ≠ (.slice Ao87 t220.length co87 : Value).ownBlock ∧ some k_ ≠ (v226 : Value).ownBlock ∧ some k_ ≠ (.slice Ao88 y229.length co88 : Value).ownBlock ∧ some k_ ≠ (.slice Ao96 y239.length co96 : Value).ownBlock ∧ some k_ ≠ (v247 : Value).ownBlock ∧ k_ ≠ gb190 ∧ k_ ≠ gb191 ∧ k_ ≠ gb192) v243 t242) ∧ (Kd.R k29 29 w' w.heap.size (fun k_ => some k_ ≠ (.slice Ao61 y193.length co61 : Value).ownBlock ∧ some k_ ≠ (.slice Ao65 y197.length co65 : Value).ownBlock ∧ some k_ ≠ (.slice Ao71 y209.length co71 : Value).ownBlock ∧ some k_ ≠ (.slice Ao78 y213.length co78 : Value).ownBlock ∧ some k_ ≠ (.slice Ao82 t216.length co82 : Value).ownBlock ∧ some k_ ≠ (.slice Ao87 t220.length co87 : Value).ownBlock ∧ some k_ ≠ (v226 : Value).ownBlock ∧ some k_ ≠ (.slice Ao88 y229.length co88 : Value).ownBlock ∧ some k_ ≠ (.slice Ao96 y239.length co96 : Value).ownBlock ∧ some k_ ≠ (v243 : Value).ownBlock ∧ k_ ≠ gb190 ∧ k_ ≠ gb191 ∧ k_ ≠ gb192) v247 t246) ∧ (w'.heap[gb190]? = some (.cells #[.int .i64 t169, .int .i64 t170, .int .i64 t171, .int .i64 t172, .int .i64 t173, .int .i64 t174, .int .i64 t175] 29 (0, 0))) ∧ (w'.heap[gb191]? = some (.cells #[.int .i64 t176, .int .i64 t177, .int .i64 t178, .int .i64 t179, .int .i64 t180, .int .i64 t181, .int .i64 t182] 29 (0, 0))) ∧ (w'.heap[gb192]? = some (.cells #[.int .i64 t183, .int .i64 t184, .int .i64 t185, .int .i64 t186, .int .i64 t187, .int .i64 t188, .int .i64 t189] 29 (0, 0))) ∧ (Below w.heap.size w w') ∧ (b 1 = true → Kd.R k29 29 w' w.heap.size (fun k_ => some k_ ≠ (.slice Ao61 y193.length co61 : Value).ownBlock ∧ some k_ ≠ (.slice Ao65 y197.length co65 : Value).ownBlock ∧ some k_ ≠ (.slice Ao71 y209.length co71 : Value).ownBlock ∧ some k_ ≠ (.slice Ao78 y213.length co78 : Value).ownBlock ∧ some k_ ≠ (.slice Ao82 t216.length co82 : Value).ownBlock ∧ some k_ ≠ (.slice Ao87 t220.length co87 : Value).ownBlock ∧ some k_ ≠ (v226 : Value).ownBlock ∧ some k_ ≠ (.slice Ao88 y229.length co88 : Value).ownBlock ∧ some k_ ≠ (.slice Ao96 y239.length co96 : Value).ownBlock ∧ some k_ ≠ (v243 : Value).ownBlock ∧ some k_ ≠ (v247 : Value).ownBlock ∧ k_ ≠ gb190 ∧ k_ ≠ gb191 ∧ k_ ≠ gb192) v251 y250) ∧ (b 3 = true → Kd.R k29 29 w' w.heap.size (fun k_ => some k_ ≠ (.slice Ao61 y193.length co61 : Value).ownBlock ∧ some k_ ≠ (.slice Ao65 y197.length co65 : Value).ownBlock ∧ some k_ ≠ (.slice Ao71 y209.length co71 : Value).ownBlock ∧ some k_ ≠ (.slice Ao78 y213.length co78 : Value).ownBlock ∧ some k_ ≠ (.slice Ao82 t216.length co82 : Value).ownBlock ∧ some k_ ≠ (.slice Ao87 t220.length co87 : Value).ownBlock ∧ some k_ ≠ (v226 : Value).ownBlock ∧ some k_ ≠ (.slice Ao88 y229.length co88 : Value).ownBlock ∧ some k_ ≠ (.slice Ao96 y239.length co96 : Value).ownBlock ∧ some k_ ≠ (v243 : Value).ownBlock ∧ some k_ ≠ (v247 : Value).ownBlock ∧ k_ ≠ gb190 ∧ k_ ≠ gb191 ∧ k_ ≠ gb192) v261 y260) ∧ (b 4 = true → Kd.R k29 29 w' w.heap.size (fun k_ => some k_ ≠ (.slice Ao61 y193.length co61 : Value).ownBlock ∧ some k_ ≠ (.slice Ao65 y197.length co65 : Value).ownBlock ∧ some k_ ≠ (.slice Ao71 y209.length co71 : Value).ownBlock ∧ some k_ ≠ (.slice Ao78 y213.length co78 : Value).ownBlock ∧ some k_ ≠ (.slice Ao82 t216.length co82 : Value).ownBlock ∧ some k_ ≠ (.slice Ao87 t220.length co87 : Value).ownBlock ∧ some k_ ≠ (v226 : Value).ownBlock ∧ some k_ ≠ (.slice Ao88 y229.length co88 : Value).ownBlock ∧ some k_ ≠ (.slice Ao96 y239.length co96 : Value).ownBlock ∧ some k_ ≠ (v243 : Value).ownBlock ∧ some k_ ≠ (v247 : Value).ownBlock ∧ k_ ≠ gb190 ∧ k_ ≠ gb191 ∧ k_ ≠ gb192) v265 t263) ∧ (b 4 = true → (m4_ : Value) = .tuple #[v265, .int .i64 t264]) ∧ (b 5 = true → (m5_ : Value) = .tuple #[v265, .int .i64 t264]) ∧ (b 6 = true → (m6_ : Value) = v265) ∧ (b 8 = true → (m8_ : Value) = v265)) HT_.out HW_.out (by kernel_rfl) (by kernel_rfl) ?_ ?_ ?_
                     ·exact ⟨.bool false, .bool false, .bool false, .bool false, .bool false, .bool false, .bool false, by simp only [putSel, Bool.false_eq_true, if_false], (by first | exact HO195.out | exact Kd.R_mono HO195.out (fun _ hk => by revert hk; simp only [and_imp]; intros; (repeat' apply And.intro) <;> assumption)), (by first | exact HO199.out | exact Kd.R_mono HO199.out (fun _ hk => by revert hk; simp only [and_imp]; intros; (repeat' apply And.intro) <;> assumption)), (by first | exact HO211.out | exact Kd.R_mono HO211.out (fun _ hk => by revert hk; simp only [and_imp]; intros; (repeat' apply And.intro) <;> assumption)), (by first | exact HO215.out | exact Kd.R_mono HO215.out (fun _ hk => by revert hk; simp only [and_imp]; intros; (repeat' apply And.intro) <;> assumption)), (by first | exact HO218.out | exact Kd.R_mono HO218.out (fun _ hk => by revert hk; simp only [and_imp]; intros; (repeat' apply And.intro) <;> assumption)), (by first | exact HO223.out | exact Kd.R_mono HO223.out (fun _ hk => by revert hk; simp only [and_imp]; intros; (repeat' apply And.intro) <;> assumption)), (by first | exact HO227.out | exact Kd.R_mono HO227.out (fun _ hk => by revert hk; simp only [and_imp]; intros; (repeat' apply And.intro) <;> assumption)), (by first | exact HO231.out | exact Kd.R_mono HO231.out (fun _ hk => by revert hk; simp only [and_imp]; intros; (repeat' apply And.intro) <;> assumption)), (by first | exact HO241.out | exact Kd.R_mono HO241.out (fun _ hk => by revert hk; simp only [and_imp]; intros; (repeat' apply And.intro) <;> assumption)), (by first | exact HO244.out | exact Kd.R_mono HO244.out (fun _ hk => by revert hk; simp only [and_imp]; intros; (repeat' apply And.intro) <;> assumption)), (by first | exact HO248.out | exact Kd.R_mono HO248.out (fun _ hk => by revert hk; simp only [and_imp]; intros; (repeat' apply And.intro) <;> assumption)), BK190.out, BK191.out, BK192.out, HB.out, fun h_ => absurd h_ (by decide), fun h_ => absurd h_ (by decide), fun h_ => absurd h_ (by decide), fun h_ => absurd h_ (by decide), fun h_ => absurd h_ (by decide), fun h_ => absurd h_ (by decide), fun h_ => absurd h_ (by decide)⟩
                     ·skip
                      clear BK190 BK191 BK192 HB HO195 HO199 HO211 HO215 HO218 HO223 HO227 HO231 HO241 HO244 HO248
                      refine steps_cons ?_ ?_
                      ·rintro b a w' ⟨v251, v261, v265, m4_, m5_, m6_, m8_, ha, Q_HO195, Q_HO199, Q_HO211, Q_HO215, Q_HO218, Q_HO223, Q_HO227, Q_HO231, Q_HO241, Q_HO244, Q_HO248, Q_BK190, Q_BK191, Q_BK192, Q_HB, Q_HO252, Q_HO262, Q_HO266, Q_X4_, Q_X5_, Q_X6_, Q_X8_⟩ hb_ hon hoff
                       refine ⟨_, rfl, fun K hK => ?_⟩
                       have e1 : a.tmps[1]? = some (.pointer (some ⟨gb190, 0, none⟩)) := by rw [ha]; exact (putSel_off rfl).trans rfl
                       replace ha := Aside0.mk ha
                       have HO195 := Aside0.mk Q_HO195
                       have HO199 := Aside0.mk Q_HO199
                       have HO211 := Aside0.mk Q_HO211
                       have HO215 := Aside0.mk Q_HO215
                       have HO218 := Aside0.mk Q_HO218
                       have HO223 := Aside0.mk Q_HO223
                       have HO227 := Aside0.mk Q_HO227
                       have HO231 := Aside0.mk Q_HO231
                       have HO241 := Aside0.mk Q_HO241
                       have HO244 := Aside0.mk Q_HO244
                       have HO248 := Aside0.mk Q_HO248
                       have BK190 := Aside0.mk Q_BK190
                       have BK191 := Aside0.mk Q_BK191
                       have BK192 := Aside0.mk Q_BK192
                       have HB := Aside0.mk Q_HB
                       have hc0_ : w'.cell? ⟨gb190, 0, none⟩ = some (.int .i64 t169) := (blk_cell BK190.out 0).trans rfl
                       have hc1_ : w'.cell? ⟨gb190, 1, none⟩ = some (.int .i64 t170) := (blk_cell BK190.out 1).trans rfl
                       have hc2_ : w'.cell? ⟨gb190, 2, none⟩ = some (.int .i64 t171) := (blk_cell BK190.out 2).trans rfl
                       have hc3_ : w'.cell? ⟨gb190, 3, none⟩ = some (.int .i64 t172) := (blk_cell BK190.out 3).trans rfl
                       have hc4_ : w'.cell? ⟨gb190, 4, none⟩ = some (.int .i64 t173) := (blk_cell BK190.out 4).trans rfl
                       have hc5_ : w'.cell? ⟨gb190, 5, none⟩ = some (.int .i64 t174) := (blk_cell BK190.out 5).trans rfl
                       have hc6_ : w'.cell? ⟨gb190, 6, none⟩ = some (.int .i64 t175) := (blk_cell BK190.out 6).trans rfl
                       refine value_ (w1 := w') (v := .agg #[.int .i64 t169, .int .i64 t170, .int .i64 t171, .int .i64 t172, .int .i64 t173, .int .i64 t174, .int .i64 t175]) (by rfl) rfl ?_ ?_
                       ·go_simp
                        (try simp only [i64_w])
                        try rfl
                       refine hK.out _ _ ⟨v251, v261, v265, m4_, m5_, m6_, m8_, (by rw [ha.out]; exact putSel_upk 0 hb_ rfl rfl rfl), Q_HO195, Q_HO199, Q_HO211, Q_HO215, Q_HO218, Q_HO223, Q_HO227, Q_HO231, Q_HO241, Q_HO244, Q_HO248, Q_BK190, Q_BK191, Q_BK192, Q_HB, fun h0_ => absurd ((hoff 1 (by kernel_rfl)).symm.trans h0_) (by decide), Q_HO262, fun h0_ => absurd ((hoff 4 (by kernel_rfl)).symm.trans h0_) (by decide), fun h0_ => absurd ((hoff 4 (by kernel_rfl)).symm.trans h0_) (by decide), fun h0_ => absurd ((hoff 5 (by kernel_rfl)).symm.trans h0_) (by decide), fun h0_ => absurd ((hoff 6 (by kernel_rfl)).symm.trans h0_) (by decide), fun h0_ => absurd ((hoff 8 (by kernel_rfl)).symm.trans h0_) (by decide)⟩
                      refine steps_cons ?_ ?_
                      ·rintro b a w' ⟨v251, v261, v265, m4_, m5_, m6_, m8_, ha, Q_HO195, Q_HO199, Q_HO211, Q_HO215, Q_HO218, Q_HO223, Q_HO227, Q_HO231, Q_HO241, Q_HO244, Q_HO248, Q_BK190, Q_BK191, Q_BK192, Q_HB, Q_HO252, Q_HO262, Q_HO266, Q_X4_, Q_X5_, Q_X6_, Q_X8_⟩ hb_ hon hoff
                       refine ⟨_, rfl, fun K hK => ?_⟩
                       have e136 : a.tmps[136]? = some (.agg #[.int .i64 t169, .int .i64 t170, .int .i64 t171, .int .i64 t172, .int .i64 t173, .int .i64 t174, .int .i64 t175]) := by rw [ha]; exact putSel_on (e := (0, 136, .agg #[.int .i64 t169, .int .i64 t170, .int .i64 t171, .int .i64 t172, .int .i64 t173, .int .i64 t174, .int .i64 t175])) 0 rfl rfl (hon 0 (by kernel_rfl)) rfl
                       replace ha := Aside0.mk ha
                       have HO195 := Aside0.mk Q_HO195
                       have HO199 := Aside0.mk Q_HO199
                       have HO211 := Aside0.mk Q_HO211
                       have HO215 := Aside0.mk Q_HO215
                       have HO218 := Aside0.mk Q_HO218
                       have HO223 := Aside0.mk Q_HO223
                       have HO227 := Aside0.mk Q_HO227
                       have HO231 := Aside0.mk Q_HO231
                       have HO241 := Aside0.mk Q_HO241
                       have HO244 := Aside0.mk Q_HO244
                       have HO248 := Aside0.mk Q_HO248
                       have BK190 := Aside0.mk Q_BK190
                       have BK191 := Aside0.mk Q_BK191
                       have BK192 := Aside0.mk Q_BK192
                       have HB := Aside0.mk Q_HB
                       refine Kd.R_lit_step k29 _ 29 ?hg (N := 137) ?hd (xs := ([(⟨t169, t170, t171, t172, t173, t174, t175⟩ : S29)] : List (S29))) (inner := [.int .i64 t169, .int .i64 t170, .int .i64 t171, .int .i64 t172, .int .i64 t173, .int .i64 t174, .int .i64 t175]) (ok := fun _ => True) (okp := fun _ => True) ?hr ?hp (fun _ hk => hk) trivial (Below.refl _ _) (Nat.le_refl _) (by simp) ?_; (case hd => rfl); (case hg => rfl); (case hr => first | (go_simp; done) | (go_simp; rfl)); (case hp => exact (Reps.c7 (show Kd.M k29 _ _ _ (⟨t169, t170, t171, t172, t173, t174, t175⟩ : S29) [.int .i64 t169, .int .i64 t170, .int .i64 t171, .int .i64 t172, .int .i64 t173, .int .i64 t174, .int .i64 t175] from (k29_mkM _ _ _ (⟨t169, t170, t171, t172, t173, t174, t175⟩ : S29) )) (Reps.none _ _)))
                       intro v251 w100 ho101 hb hg_ hnew_
                       clear hg_ hnew_
                       (first | rw [← Ny250.out] at ho101 | (simp only [Int.reduceToNat] at ho101; rw [← Ny250.out] at ho101))
                       have n0_ := Aside0.mk (Kd.R_elder' (Kd.rU HO195.out) (Kd.R_base ho101) hb)
                       have n1_ := Aside0.mk (Kd.R_elder' (Kd.rU HO199.out) (Kd.R_base ho101) hb)
                       have n2_ := Aside0.mk (Kd.R_elder' (Kd.rU HO211.out) (Kd.R_base ho101) hb)
                       have n3_ := Aside0.mk (Kd.R_elder' (Kd.rU HO215.out) (Kd.R_base ho101) hb)
                       have n4_ := Aside0.mk (Kd.R_elder' (Kd.rU HO218.out) (Kd.R_base ho101) hb)
                       have n5_ := Aside0.mk (Kd.R_elder' (Kd.rU HO223.out) (Kd.R_base ho101) hb)
                       have n6_ := Aside0.mk (Kd.R_elder' (Kd.rU HO227.out) (Kd.R_base ho101) hb)
                       have n7_ := Aside0.mk (Kd.R_elder' (Kd.rU HO231.out) (Kd.R_base ho101) hb)
                       have n8_ := Aside0.mk (Kd.R_elder' (Kd.rU HO241.out) (Kd.R_base ho101) hb)
                       have n9_ := Aside0.mk (Kd.R_elder' (Kd.rU HO244.out) (Kd.R_base ho101) hb)
                       have n10_ := Aside0.mk (Kd.R_elder' (Kd.rU HO248.out) (Kd.R_base ho101) hb)
                       have n11_ := Aside0.mk (Kd.R_lower (Kd.R_newB (Kd.R_newB (Kd.R_newB (Kd.R_new' (Kd.R_new' (Kd.R_new' (Kd.R_new' (Kd.R_new' (Kd.R_new' (Kd.R_new' (Kd.R_new' (Kd.R_new' (Kd.R_new' (Kd.R_new' ho101 (Kd.R_lt (Kd.rU HO195.out))) (Kd.R_lt (Kd.rU HO199.out))) (Kd.R_lt (Kd.rU HO211.out))) (Kd.R_lt (Kd.rU HO215.out))) (Kd.R_lt (Kd.rU HO218.out))) (Kd.R_lt (Kd.rU HO223.out))) (Kd.R_lt (Kd.rU HO227.out))) (Kd.R_lt (Kd.rU HO231.out))) (Kd.R_lt (Kd.rU HO241.out))) (Kd.R_lt (Kd.rU HO244.out))) (Kd.R_lt (Kd.rU HO248.out))) (bU BK190.out)) (bU BK191.out)) (bU BK192.out)) (below_size (hU HB.out)))
                       have n12_ := Aside0.mk (blk_below (bU BK190.out) hb)
                       have n13_ := Aside0.mk (blk_below (bU BK191.out) hb)
                       have n14_ := Aside0.mk (blk_below (bU BK192.out) hb)
                       have n15_ := Aside0.mk (below_step (hU HB.out) hb)
                       have z_HO262 := fun (h0_ : b 3 = true) => (show Kd.R k29 29 w100 w.heap.size (fun k_ => some k_ ≠ (.slice Ao61 y193.length co61 : Value).ownBlock ∧ some k_ ≠ (.slice Ao65 y197.length co65 : Value).ownBlock ∧ some k_ ≠ (.slice Ao71 y209.length co71 : Value).ownBlock ∧ some k_ ≠ (.slice Ao78 y213.length co78 : Value).ownBlock ∧ some k_ ≠ (.slice Ao82 t216.length co82 : Value).ownBlock ∧ some k_ ≠ (.slice Ao87 t220.length co87 : Value).ownBlock ∧ some k_ ≠ (v226 : Value).ownBlock ∧ some k_ ≠ (.slice Ao88 y229.length co88 : Value).ownBlock ∧ some k_ ≠ (.slice Ao96 y239.length co96 : Value).ownBlock ∧ some k_ ≠ (v243 : Value).ownBlock ∧ some k_ ≠ (v247 : Value).ownBlock ∧ k_ ≠ gb190 ∧ k_ ≠ gb191 ∧ k_ ≠ gb192) v261 y260 from by first | exact (Kd.R_elder' (by (with_reducible repeat (first | apply Kd.R_alloc | apply Kd.R_drewN | apply Kd.R_drew)); exact (Q_HO262 h0_)) (Kd.R_base ho101) hb) | exact Kd.R_mono (Kd.R_elder' (by (with_reducible repeat (first | apply Kd.R_alloc | apply Kd.R_drewN | apply Kd.R_drew)); exact (Q_HO262 h0_)) (Kd.R_base ho101) hb) (fun _ h_ => by first | trivial | exact h_ | exact h_.1))
                       clear HO195
                       clear HO199
                       clear HO211
                       clear HO215
                       clear HO218
                       clear HO223
                       clear HO227
                       clear HO231
                       clear HO241
                       clear HO244
                       clear HO248
                       clear BK190
                       clear BK191
                       clear BK192
                       clear HB
                       have HO195 := n0_
                       have HO199 := n1_
                       have HO211 := n2_
                       have HO215 := n3_
                       have HO218 := n4_
                       have HO223 := n5_
                       have HO227 := n6_
                       have HO231 := n7_
                       have HO241 := n8_
                       have HO244 := n9_
                       have HO248 := n10_
                       have HO252 := n11_
                       have BK190 := n12_
                       have BK191 := n13_
                       have BK192 := n14_
                       have HB := n15_
                       clear n0_ n1_ n2_ n3_ n4_ n5_ n6_ n7_ n8_ n9_ n10_ n11_ n12_ n13_ n14_ n15_
                       clear hb ho101
                       refine hK.out _ _ ⟨v251, v261, v265, m4_, m5_, m6_, m8_, (by rw [ha.out]; exact putSel_upk 1 hb_ rfl rfl rfl), (by (with_reducible repeat (first | apply Kd.R_alloc | apply Kd.R_drewN | apply Kd.R_drew)); exact Kd.R_mono HO195.out (fun _ hk => by revert hk; simp only [and_imp]; intros; (repeat' apply And.intro) <;> assumption)), (by (with_reducible repeat (first | apply Kd.R_alloc | apply Kd.R_drewN | apply Kd.R_drew)); exact Kd.R_mono HO199.out (fun _ hk => by revert hk; simp only [and_imp]; intros; (repeat' apply And.intro) <;> assumption)), (by (with_reducible repeat (first | apply Kd.R_alloc | apply Kd.R_drewN | apply Kd.R_drew)); exact Kd.R_mono HO211.out (fun _ hk => by revert hk; simp only [and_imp]; intros; (repeat' apply And.intro) <;> assumption)), (by (with_reducible repeat (first | apply Kd.R_alloc | apply Kd.R_drewN | apply Kd.R_drew)); exact Kd.R_mono HO215.out (fun _ hk => by revert hk; simp only [and_imp]; intros; (repeat' apply And.intro) <;> assumption)), (by (with_reducible repeat (first | apply Kd.R_alloc | apply Kd.R_drewN | apply Kd.R_drew)); exact Kd.R_mono HO218.out (fun _ hk => by revert hk; simp only [and_imp]; intros; (repeat' apply And.intro) <;> assumption)), (by (with_reducible repeat (first | apply Kd.R_alloc | apply Kd.R_drewN | apply Kd.R_drew)); exact Kd.R_mono HO223.out (fun _ hk => by revert hk; simp only [and_imp]; intros; (repeat' apply And.intro) <;> assumption)), (by (with_reducible repeat (first | apply Kd.R_alloc | apply Kd.R_drewN | apply Kd.R_drew)); exact Kd.R_mono HO227.out (fun _ hk => by revert hk; simp only [and_imp]; intros; (repeat' apply And.intro) <;> assumption)), (by (with_reducible repeat (first | apply Kd.R_alloc | apply Kd.R_drewN | apply Kd.R_drew)); exact Kd.R_mono HO231.out (fun _ hk => by revert hk; simp only [and_imp]; intros; (repeat' apply And.intro) <;> assumption)), (by (with_reducible repeat (first | apply Kd.R_alloc | apply Kd.R_drewN | apply Kd.R_drew)); exact Kd.R_mono HO241.out (fun _ hk => by revert hk; simp only [and_imp]; intros; (repeat' apply And.intro) <;> assumption)), (by (with_reducible repeat (first | apply Kd.R_alloc | apply Kd.R_drewN | apply Kd.R_drew)); exact Kd.R_mono HO244.out (fun _ hk => by revert hk; simp only [and_imp]; intros; (repeat' apply And.intro) <;> assumption)), (by (with_reducible repeat (first | apply Kd.R_alloc | apply Kd.R_drewN | apply Kd.R_drew)); exact Kd.R_mono HO248.out (fun _ hk => by revert hk; simp only [and_imp]; intros; (repeat' apply And.intro) <;> assumption)), (bU BK190.out), (bU BK191.out), (bU BK192.out), (hU HB.out), fun _ => (by (with_reducible repeat (first | apply Kd.R_alloc | apply Kd.R_drewN | apply Kd.R_drew)); exact Kd.R_mono HO252.out (fun _ hk => by revert hk; simp only [and_imp]; intros; (repeat' apply And.intro) <;> assumption)), z_HO262, fun h0_ => absurd ((hoff 4 (by kernel_rfl)).symm.trans h0_) (by decide), fun h0_ => absurd ((hoff 4 (by kernel_rfl)).symm.trans h0_) (by decide), fun h0_ => absurd ((hoff 5 (by kernel_rfl)).symm.trans h0_) (by decide), fun h0_ => absurd ((hoff 6 (by kernel_rfl)).symm.trans h0_) (by decide), fun h0_ => absurd ((hoff 8 (by kernel_rfl)).symm.trans h0_) (by decide)⟩
                      refine steps_cons ?_ ?_
                      ·rintro b a w' ⟨v251, v261, v265, m4_, m5_, m6_, m8_, ha, Q_HO195, Q_HO199, Q_HO211, Q_HO215, Q_HO218, Q_HO223, Q_HO227, Q_HO231, Q_HO241, Q_HO244, Q_HO248, Q_BK190, Q_BK191, Q_BK192, Q_HB, Q_HO252, Q_HO262, Q_HO266, Q_X4_, Q_X5_, Q_X6_, Q_X8_⟩ hb_ hon hoff
                       refine ⟨_, rfl, fun K hK => ?_⟩
                       replace ha := Aside0.mk ha
                       have HO195 := Aside0.mk Q_HO195
                       have HO199 := Aside0.mk Q_HO199
                       have HO211 := Aside0.mk Q_HO211
                       have HO215 := Aside0.mk Q_HO215
                       have HO218 := Aside0.mk Q_HO218
                       have HO223 := Aside0.mk Q_HO223
                       have HO227 := Aside0.mk Q_HO227
                       have HO231 := Aside0.mk Q_HO231
                       have HO241 := Aside0.mk Q_HO241
                       have HO244 := Aside0.mk Q_HO244
                       have HO248 := Aside0.mk Q_HO248
                       have BK190 := Aside0.mk Q_BK190
                       have BK191 := Aside0.mk Q_BK191
                       have BK192 := Aside0.mk Q_BK192
                       have HB := Aside0.mk Q_HB
                       refine goes_ Try.func60 (by kernel_rfl) rfl #[.int .i64 0] (by rfl) rfl rfl (by first | (simp only [List.map_toArray, List.map_cons, List.map_nil, Act.eval, Array.getD_eq_getD_getElem?, Option.getD_some]; done) | (simp only [List.map_toArray, List.map_cons, List.map_nil, Act.eval, Array.getD_eq_getD_getElem?, Option.getD_some]; rfl)) ?_
                       with_reducible refine (dancestudiolaw24_turn.calls 0 t253 t254 t255 t256 t257 t258 t259 _ A33.out).mono ?_
                       rintro e w100 ⟨rfl, hb⟩
                       refine ⟨_, rfl, ?_⟩
                       have n0_ := Aside0.mk (Kd.R_below (Kd.rU HO195.out) hb)
                       have n1_ := Aside0.mk (Kd.R_below (Kd.rU HO199.out) hb)
                       have n2_ := Aside0.mk (Kd.R_below (Kd.rU HO211.out) hb)
                       have n3_ := Aside0.mk (Kd.R_below (Kd.rU HO215.out) hb)
                       have n4_ := Aside0.mk (Kd.R_below (Kd.rU HO218.out) hb)
                       have n5_ := Aside0.mk (Kd.R_below (Kd.rU HO223.out) hb)
                       have n6_ := Aside0.mk (Kd.R_below (Kd.rU HO227.out) hb)
                       have n7_ := Aside0.mk (Kd.R_below (Kd.rU HO231.out) hb)
                       have n8_ := Aside0.mk (Kd.R_below (Kd.rU HO241.out) hb)
                       have n9_ := Aside0.mk (Kd.R_below (Kd.rU HO244.out) hb)
                       have n10_ := Aside0.mk (Kd.R_below (Kd.rU HO248.out) hb)
                       have n11_ := Aside0.mk (blk_below (bU BK190.out) hb)
                       have n12_ := Aside0.mk (blk_below (bU BK191.out) hb)
                       have n13_ := Aside0.mk (blk_below (bU BK192.out) hb)
                       have n14_ := Aside0.mk (below_step (hU HB.out) hb)
                       have z_HO252 := fun (h0_ : b 1 = true) => (show Kd.R k29 29 w100 w.heap.size (fun k_ => some k_ ≠ (.slice Ao61 y193.length co61 : Value).ownBlock ∧ some k_ ≠ (.slice Ao65 y197.length co65 : Value).ownBlock ∧ some k_ ≠ (.slice Ao71 y209.length co71 : Value).ownBlock ∧ some k_ ≠ (.slice Ao78 y213.length co78 : Value).ownBlock ∧ some k_ ≠ (.slice Ao82 t216.length co82 : Value).ownBlock ∧ some k_ ≠ (.slice Ao87 t220.length co87 : Value).ownBlock ∧ some k_ ≠ (v226 : Value).ownBlock ∧ some k_ ≠ (.slice Ao88 y229.length co88 : Value).ownBlock ∧ some k_ ≠ (.slice Ao96 y239.length co96 : Value).ownBlock ∧ some k_ ≠ (v243 : Value).ownBlock ∧ some k_ ≠ (v247 : Value).ownBlock ∧ k_ ≠ gb190 ∧ k_ ≠ gb191 ∧ k_ ≠ gb192) v251 y250 from by first | exact (Kd.R_below (by (with_reducible repeat (first | apply Kd.R_alloc | apply Kd.R_drewN | apply Kd.R_drew)); exact (Q_HO252 h0_)) hb) | exact Kd.R_mono (Kd.R_below (by (with_reducible repeat (first | apply Kd.R_alloc | apply Kd.R_drewN | apply Kd.R_drew)); exact (Q_HO252 h0_)) hb) (fun _ h_ => by first | trivial | exact h_ | exact h_.1))
                       clear HO195
                       clear HO199
                       clear HO211
                       clear HO215
                       clear HO218
                       clear HO223
                       clear HO227
                       clear HO231
                       clear HO241
                       clear HO244
                       clear HO248
                       clear BK190
                       clear BK191
                       clear BK192
                       clear HB
                       have HO195 := n0_
                       have HO199 := n1_
                       have HO211 := n2_
                       have HO215 := n3_
                       have HO218 := n4_
                       have HO223 := n5_
                       have HO227 := n6_
                       have HO231 := n7_
                       have HO241 := n8_
                       have HO244 := n9_
                       have HO248 := n10_
                       have BK190 := n11_
                       have BK191 := n12_
                       have BK192 := n13_
                       have HB := n14_
                       clear n0_ n1_ n2_ n3_ n4_ n5_ n6_ n7_ n8_ n9_ n10_ n11_ n12_ n13_ n14_
                       (try clear hb)
                       (try clear hb2)
                       (try clear hk)
                       (try clear hi)
                       refine hK.out _ _ ⟨v251, v261, v265, m4_, m5_, m6_, m8_, (by rw [ha.out]; exact putSel_upk 2 hb_ rfl rfl rfl), (by (with_reducible repeat (first | apply Kd.R_alloc | apply Kd.R_drewN | apply Kd.R_drew)); exact Kd.R_mono HO195.out (fun _ hk => by revert hk; simp only [and_imp]; intros; (repeat' apply And.intro) <;> assumption)), (by (with_reducible repeat (first | apply Kd.R_alloc | apply Kd.R_drewN | apply Kd.R_drew)); exact Kd.R_mono HO199.out (fun _ hk => by revert hk; simp only [and_imp]; intros; (repeat' apply And.intro) <;> assumption)), (by (with_reducible repeat (first | apply Kd.R_alloc | apply Kd.R_drewN | apply Kd.R_drew)); exact Kd.R_mono HO211.out (fun _ hk => by revert hk; simp only [and_imp]; intros; (repeat' apply And.intro) <;> assumption)), (by (with_reducible repeat (first | apply Kd.R_alloc | apply Kd.R_drewN | apply Kd.R_drew)); exact Kd.R_mono HO215.out (fun _ hk => by revert hk; simp only [and_imp]; intros; (repeat' apply And.intro) <;> assumption)), (by (with_reducible repeat (first | apply Kd.R_alloc | apply Kd.R_drewN | apply Kd.R_drew)); exact Kd.R_mono HO218.out (fun _ hk => by revert hk; simp only [and_imp]; intros; (repeat' apply And.intro) <;> assumption)), (by (with_reducible repeat (first | apply Kd.R_alloc | apply Kd.R_drewN | apply Kd.R_drew)); exact Kd.R_mono HO223.out (fun _ hk => by revert hk; simp only [and_imp]; intros; (repeat' apply And.intro) <;> assumption)), (by (with_reducible repeat (first | apply Kd.R_alloc | apply Kd.R_drewN | apply Kd.R_drew)); exact Kd.R_mono HO227.out (fun _ hk => by revert hk; simp only [and_imp]; intros; (repeat' apply And.intro) <;> assumption)), (by (with_reducible repeat (first | apply Kd.R_alloc | apply Kd.R_drewN | apply Kd.R_drew)); exact Kd.R_mono HO231.out (fun _ hk => by revert hk; simp only [and_imp]; intros; (repeat' apply And.intro) <;> assumption)), (by (with_reducible repeat (first | apply Kd.R_alloc | apply Kd.R_drewN | apply Kd.R_drew)); exact Kd.R_mono HO241.out (fun _ hk => by revert hk; simp only [and_imp]; intros; (repeat' apply And.intro) <;> assumption)), (by (with_reducible repeat (first | apply Kd.R_alloc | apply Kd.R_drewN | apply Kd.R_drew)); exact Kd.R_mono HO244.out (fun _ hk => by revert hk; simp only [and_imp]; intros; (repeat' apply And.intro) <;> assumption)), (by (with_reducible repeat (first | apply Kd.R_alloc | apply Kd.R_drewN | apply Kd.R_drew)); exact Kd.R_mono HO248.out (fun _ hk => by revert hk; simp only [and_imp]; intros; (repeat' apply And.intro) <;> assumption)), (bU BK190.out), (bU BK191.out), (bU BK192.out), (hU HB.out), z_HO252, fun h0_ => absurd ((hoff 3 (by kernel_rfl)).symm.trans h0_) (by decide), fun h0_ => absurd ((hoff 4 (by kernel_rfl)).symm.trans h0_) (by decide), fun h0_ => absurd ((hoff 4 (by kernel_rfl)).symm.trans h0_) (by decide), fun h0_ => absurd ((hoff 5 (by kernel_rfl)).symm.trans h0_) (by decide), fun h0_ => absurd ((hoff 6 (by kernel_rfl)).symm.trans h0_) (by decide), fun h0_ => absurd ((hoff 8 (by kernel_rfl)).symm.trans h0_) (by decide)⟩
                      refine steps_cons ?_ ?_
                      ·rintro b a w' ⟨v251, v261, v265, m4_, m5_, m6_, m8_, ha, Q_HO195, Q_HO199, Q_HO211, Q_HO215, Q_HO218, Q_HO223, Q_HO227, Q_HO231, Q_HO241, Q_HO244, Q_HO248, Q_BK190, Q_BK191, Q_BK192, Q_HB, Q_HO252, Q_HO262, Q_HO266, Q_X4_, Q_X5_, Q_X6_, Q_X8_⟩ hb_ hon hoff
                       refine ⟨_, rfl, fun K hK => ?_⟩
                       have e138 : a.tmps[138]? = some (.agg #[.int .i64 t253, .int .i64 t254, .int .i64 t255, .int .i64 t256, .int .i64 t257, .int .i64 t258, .int .i64 t259]) := by rw [ha]; exact putSel_on (e := (2, 138, .agg #[.int .i64 t253, .int .i64 t254, .int .i64 t255, .int .i64 t256, .int .i64 t257, .int .i64 t258, .int .i64 t259])) 2 rfl rfl (hon 2 (by kernel_rfl)) rfl
                       replace ha := Aside0.mk ha
                       have HO195 := Aside0.mk Q_HO195
                       have HO199 := Aside0.mk Q_HO199
                       have HO211 := Aside0.mk Q_HO211
                       have HO215 := Aside0.mk Q_HO215
                       have HO218 := Aside0.mk Q_HO218
                       have HO223 := Aside0.mk Q_HO223
                       have HO227 := Aside0.mk Q_HO227
                       have HO231 := Aside0.mk Q_HO231
                       have HO241 := Aside0.mk Q_HO241
                       have HO244 := Aside0.mk Q_HO244
                       have HO248 := Aside0.mk Q_HO248
                       have BK190 := Aside0.mk Q_BK190
                       have BK191 := Aside0.mk Q_BK191
                       have BK192 := Aside0.mk Q_BK192
                       have HB := Aside0.mk Q_HB
                       refine Kd.R_lit_step k29 _ 29 ?hg (N := 139) ?hd (xs := ([(⟨t253, t254, t255, t256, t257, t258, t259⟩ : S29)] : List (S29))) (inner := [.int .i64 t253, .int .i64 t254, .int .i64 t255, .int .i64 t256, .int .i64 t257, .int .i64 t258, .int .i64 t259]) (ok := fun _ => True) (okp := fun _ => True) ?hr ?hp (fun _ hk => hk) trivial (Below.refl _ _) (Nat.le_refl _) (by simp) ?_; (case hd => rfl); (case hg => rfl); (case hr => first | (go_simp; done) | (go_simp; rfl)); (case hp => exact (Reps.c7 (show Kd.M k29 _ _ _ (⟨t253, t254, t255, t256, t257, t258, t259⟩ : S29) [.int .i64 t253, .int .i64 t254, .int .i64 t255, .int .i64 t256, .int .i64 t257, .int .i64 t258, .int .i64 t259] from (k29_mkM _ _ _ (⟨t253, t254, t255, t256, t257, t258, t259⟩ : S29) )) (Reps.none _ _)))
                       intro v261 w102 ho103 hb hg_ hnew_
                       clear hg_ hnew_
                       (first | rw [← Ny260.out] at ho103 | (simp only [Int.reduceToNat] at ho103; rw [← Ny260.out] at ho103))
                       have n0_ := Aside0.mk (Kd.R_elder' (Kd.rU HO195.out) (Kd.R_base ho103) hb)
                       have n1_ := Aside0.mk (Kd.R_elder' (Kd.rU HO199.out) (Kd.R_base ho103) hb)
                       have n2_ := Aside0.mk (Kd.R_elder' (Kd.rU HO211.out) (Kd.R_base ho103) hb)
                       have n3_ := Aside0.mk (Kd.R_elder' (Kd.rU HO215.out) (Kd.R_base ho103) hb)
                       have n4_ := Aside0.mk (Kd.R_elder' (Kd.rU HO218.out) (Kd.R_base ho103) hb)
                       have n5_ := Aside0.mk (Kd.R_elder' (Kd.rU HO223.out) (Kd.R_base ho103) hb)
                       have n6_ := Aside0.mk (Kd.R_elder' (Kd.rU HO227.out) (Kd.R_base ho103) hb)
                       have n7_ := Aside0.mk (Kd.R_elder' (Kd.rU HO231.out) (Kd.R_base ho103) hb)
                       have n8_ := Aside0.mk (Kd.R_elder' (Kd.rU HO241.out) (Kd.R_base ho103) hb)
                       have n9_ := Aside0.mk (Kd.R_elder' (Kd.rU HO244.out) (Kd.R_base ho103) hb)
                       have n10_ := Aside0.mk (Kd.R_elder' (Kd.rU HO248.out) (Kd.R_base ho103) hb)
                       have n11_ := Aside0.mk (Kd.R_lower (Kd.R_newB (Kd.R_newB (Kd.R_newB (Kd.R_new' (Kd.R_new' (Kd.R_new' (Kd.R_new' (Kd.R_new' (Kd.R_new' (Kd.R_new' (Kd.R_new' (Kd.R_new' (Kd.R_new' (Kd.R_new' ho103 (Kd.R_lt (Kd.rU HO195.out))) (Kd.R_lt (Kd.rU HO199.out))) (Kd.R_lt (Kd.rU HO211.out))) (Kd.R_lt (Kd.rU HO215.out))) (Kd.R_lt (Kd.rU HO218.out))) (Kd.R_lt (Kd.rU HO223.out))) (Kd.R_lt (Kd.rU HO227.out))) (Kd.R_lt (Kd.rU HO231.out))) (Kd.R_lt (Kd.rU HO241.out))) (Kd.R_lt (Kd.rU HO244.out))) (Kd.R_lt (Kd.rU HO248.out))) (bU BK190.out)) (bU BK191.out)) (bU BK192.out)) (below_size (hU HB.out)))
                       have n12_ := Aside0.mk (blk_below (bU BK190.out) hb)
                       have n13_ := Aside0.mk (blk_below (bU BK191.out) hb)
                       have n14_ := Aside0.mk (blk_below (bU BK192.out) hb)
                       have n15_ := Aside0.mk (below_step (hU HB.out) hb)
                       have z_HO252 := fun (h0_ : b 1 = true) => (show Kd.R k29 29 w102 w.heap.size (fun k_ => some k_ ≠ (.slice Ao61 y193.length co61 : Value).ownBlock ∧ some k_ ≠ (.slice Ao65 y197.length co65 : Value).ownBlock ∧ some k_ ≠ (.slice Ao71 y209.length co71 : Value).ownBlock ∧ some k_ ≠ (.slice Ao78 y213.length co78 : Value).ownBlock ∧ some k_ ≠ (.slice Ao82 t216.length co82 : Value).ownBlock ∧ some k_ ≠ (.slice Ao87 t220.length co87 : Value).ownBlock ∧ some k_ ≠ (v226 : Value).ownBlock ∧ some k_ ≠ (.slice Ao88 y229.length co88 : Value).ownBlock ∧ some k_ ≠ (.slice Ao96 y239.length co96 : Value).ownBlock ∧ some k_ ≠ (v243 : Value).ownBlock ∧ some k_ ≠ (v247 : Value).ownBlock ∧ k_ ≠ gb190 ∧ k_ ≠ gb191 ∧ k_ ≠ gb192) v251 y250 from by first | exact (Kd.R_elder' (by (with_reducible repeat (first | apply Kd.R_alloc | apply Kd.R_drewN | apply Kd.R_drew)); exact (Q_HO252 h0_)) (Kd.R_base ho103) hb) | exact Kd.R_mono (Kd.R_elder' (by (with_reducible repeat (first | apply Kd.R_alloc | apply Kd.R_drewN | apply Kd.R_drew)); exact (Q_HO252 h0_)) (Kd.R_base ho103) hb) (fun _ h_ => by first | trivial | exact h_ | exact h_.1))
                       clear HO195
                       clear HO199
                       clear HO211
                       clear HO215
                       clear HO218
                       clear HO223
                       clear HO227
                       clear HO231
                       clear HO241
                       clear HO244
                       clear HO248
                       clear BK190
                       clear BK191
                       clear BK192
                       clear HB
                       have HO195 := n0_
                       have HO199 := n1_
                       have HO211 := n2_
                       have HO215 := n3_
                       have HO218 := n4_
                       have HO223 := n5_
                       have HO227 := n6_
                       have HO231 := n7_
                       have HO241 := n8_
                       have HO244 := n9_
                       have HO248 := n10_
                       have HO262 := n11_
                       have BK190 := n12_
                       have BK191 := n13_
                       have BK192 := n14_
                       have HB := n15_
                       clear n0_ n1_ n2_ n3_ n4_ n5_ n6_ n7_ n8_ n9_ n10_ n11_ n12_ n13_ n14_ n15_
                       clear hb ho103
                       refine hK.out _ _ ⟨v251, v261, v265, m4_, m5_, m6_, m8_, (by rw [ha.out]; exact putSel_upk 3 hb_ rfl rfl rfl), (by (with_reducible repeat (first | apply Kd.R_alloc | apply Kd.R_drewN | apply Kd.R_drew)); exact Kd.R_mono HO195.out (fun _ hk => by revert hk; simp only [and_imp]; intros; (repeat' apply And.intro) <;> assumption)), (by (with_reducible repeat (first | apply Kd.R_alloc | apply Kd.R_drewN | apply Kd.R_drew)); exact Kd.R_mono HO199.out (fun _ hk => by revert hk; simp only [and_imp]; intros; (repeat' apply And.intro) <;> assumption)), (by (with_reducible repeat (first | apply Kd.R_alloc | apply Kd.R_drewN | apply Kd.R_drew)); exact Kd.R_mono HO211.out (fun _ hk => by revert hk; simp only [and_imp]; intros; (repeat' apply And.intro) <;> assumption)), (by (with_reducible repeat (first | apply Kd.R_alloc | apply Kd.R_drewN | apply Kd.R_drew)); exact Kd.R_mono HO215.out (fun _ hk => by revert hk; simp only [and_imp]; intros; (repeat' apply And.intro) <;> assumption)), (by (with_reducible repeat (first | apply Kd.R_alloc | apply Kd.R_drewN | apply Kd.R_drew)); exact Kd.R_mono HO218.out (fun _ hk => by revert hk; simp only [and_imp]; intros; (repeat' apply And.intro) <;> assumption)), (by (with_reducible repeat (first | apply Kd.R_alloc | apply Kd.R_drewN | apply Kd.R_drew)); exact Kd.R_mono HO223.out (fun _ hk => by revert hk; simp only [and_imp]; intros; (repeat' apply And.intro) <;> assumption)), (by (with_reducible repeat (first | apply Kd.R_alloc | apply Kd.R_drewN | apply Kd.R_drew)); exact Kd.R_mono HO227.out (fun _ hk => by revert hk; simp only [and_imp]; intros; (repeat' apply And.intro) <;> assumption)), (by (with_reducible repeat (first | apply Kd.R_alloc | apply Kd.R_drewN | apply Kd.R_drew)); exact Kd.R_mono HO231.out (fun _ hk => by revert hk; simp only [and_imp]; intros; (repeat' apply And.intro) <;> assumption)), (by (with_reducible repeat (first | apply Kd.R_alloc | apply Kd.R_drewN | apply Kd.R_drew)); exact Kd.R_mono HO241.out (fun _ hk => by revert hk; simp only [and_imp]; intros; (repeat' apply And.intro) <;> assumption)), (by (with_reducible repeat (first | apply Kd.R_alloc | apply Kd.R_drewN | apply Kd.R_drew)); exact Kd.R_mono HO244.out (fun _ hk => by revert hk; simp only [and_imp]; intros; (repeat' apply And.intro) <;> assumption)), (by (with_reducible repeat (first | apply Kd.R_alloc | apply Kd.R_drewN | apply Kd.R_drew)); exact Kd.R_mono HO248.out (fun _ hk => by revert hk; simp only [and_imp]; intros; (repeat' apply And.intro) <;> assumption)), (bU BK190.out), (bU BK191.out), (bU BK192.out), (hU HB.out), z_HO252, fun _ => (by (with_reducible repeat (first | apply Kd.R_alloc | apply Kd.R_drewN | apply Kd.R_drew)); exact Kd.R_mono HO262.out (fun _ hk => by revert hk; simp only [and_imp]; intros; (repeat' apply And.intro) <;> assumption)), fun h0_ => absurd ((hoff 4 (by kernel_rfl)).symm.trans h0_) (by decide), fun h0_ => absurd ((hoff 4 (by kernel_rfl)).symm.trans h0_) (by decide), fun h0_ => absurd ((hoff 5 (by kernel_rfl)).symm.trans h0_) (by decide), fun h0_ => absurd ((hoff 6 (by kernel_rfl)).symm.trans h0_) (by decide), fun h0_ => absurd ((hoff 8 (by kernel_rfl)).symm.trans h0_) (by decide)⟩
                      refine steps_cons ?_ ?_
                      ·rintro b a w' ⟨v251, v261, v265, m4_, m5_, m6_, m8_, ha, Q_HO195, Q_HO199, Q_HO211, Q_HO215, Q_HO218, Q_HO223, Q_HO227, Q_HO231, Q_HO241, Q_HO244, Q_HO248, Q_BK190, Q_BK191, Q_BK192, Q_HB, Q_HO252, Q_HO262, Q_HO266, Q_X4_, Q_X5_, Q_X6_, Q_X8_⟩ hb_ hon hoff
                       refine ⟨_, rfl, fun K hK => ?_⟩
                       have e137 : a.tmps[137]? = some (v251) := by rw [ha]; exact putSel_on (e := (1, 137, v251)) 1 rfl rfl (hon 1 (by kernel_rfl)) rfl
                       have e139 : a.tmps[139]? = some (v261) := by rw [ha]; exact putSel_on (e := (3, 139, v261)) 3 rfl rfl (hon 3 (by kernel_rfl)) rfl
                       replace ha := Aside0.mk ha
                       have HO195 := Aside0.mk Q_HO195
                       have HO199 := Aside0.mk Q_HO199
                       have HO211 := Aside0.mk Q_HO211
                       have HO215 := Aside0.mk Q_HO215
                       have HO218 := Aside0.mk Q_HO218
                       have HO223 := Aside0.mk Q_HO223
                       have HO227 := Aside0.mk Q_HO227
                       have HO231 := Aside0.mk Q_HO231
                       have HO241 := Aside0.mk Q_HO241
                       have HO244 := Aside0.mk Q_HO244
                       have HO248 := Aside0.mk Q_HO248
                       have BK190 := Aside0.mk Q_BK190
                       have BK191 := Aside0.mk Q_BK191
                       have BK192 := Aside0.mk Q_BK192
                       have HB := Aside0.mk Q_HB
                       have HO252 := Aside0.mk (Q_HO252 (hon 1 (by kernel_rfl)))
                       have HO262 := Aside0.mk (Q_HO262 (hon 3 (by kernel_rfl)))
                       obtain ⟨Ao106, co106, eo106⟩ := Kd.R_slice HO252.out
                       (first | subst eo106 | (injection eo106 with f1_ f2_ f3_; have f4_ := f1_.symm; have f5_ := f3_.symm; clear f1_ f2_ f3_; subst f4_; subst f5_))
                       obtain ⟨Ao107, co107, eo107⟩ := Kd.R_slice HO262.out
                       (first | subst eo107 | (injection eo107 with f1_ f2_ f3_; have f4_ := f1_.symm; have f5_ := f3_.symm; clear f1_ f2_ f3_; subst f4_; subst f5_))
                       refine goes_ Try.func32 (by kernel_rfl) rfl #[.slice Ao106 y250.length co106, .int .i64 24, .slice Ao107 y260.length co107, .int .i64 24] (by rfl) rfl rfl (by first | (simp only [List.map_toArray, List.map_cons, List.map_nil, Act.eval, Array.getD_eq_getD_getElem?, Option.getD_some, e137, e139]; done) | (simp only [List.map_toArray, List.map_cons, List.map_nil, Act.eval, Array.getD_eq_getD_getElem?, Option.getD_some, e137, e139]; rfl)) ?_
                       with_reducible refine (staff_Join.calls _ _ y250 24 _ _ y260 24 t263 t264 _ ?side1 ?side2 ?side3 ?side4 A34.out).mono ?_
                       (case side1 => repeat (first | exact (Kd.R_reads' HO252.out).2.2 | (with_reducible refine Kd.C_alloc ?_ _) | (with_reducible refine Kd.C_drewN ?_ _) | (with_reducible refine Kd.C_drew ?_)))
                       (case side2 => exact (Kd.R_reads' HO252.out).2.1)
                       (case side3 => repeat (first | exact (Kd.R_reads' HO262.out).2.2 | (with_reducible refine Kd.C_alloc ?_ _) | (with_reducible refine Kd.C_drewN ?_ _) | (with_reducible refine Kd.C_drew ?_)))
                       (case side4 => exact (Kd.R_reads' HO262.out).2.1)
                       rintro e w108 ⟨v265, rfl, ho0, hb⟩
                       refine ⟨_, rfl, ?_⟩
                       have n0_ := Aside0.mk (Kd.R_elder' (Kd.rU HO195.out) (Kd.R_base ho0) hb)
                       have n1_ := Aside0.mk (Kd.R_elder' (Kd.rU HO199.out) (Kd.R_base ho0) hb)
                       have n2_ := Aside0.mk (Kd.R_elder' (Kd.rU HO211.out) (Kd.R_base ho0) hb)
                       have n3_ := Aside0.mk (Kd.R_elder' (Kd.rU HO215.out) (Kd.R_base ho0) hb)
                       have n4_ := Aside0.mk (Kd.R_elder' (Kd.rU HO218.out) (Kd.R_base ho0) hb)
                       have n5_ := Aside0.mk (Kd.R_elder' (Kd.rU HO223.out) (Kd.R_base ho0) hb)
                       have n6_ := Aside0.mk (Kd.R_elder' (Kd.rU HO227.out) (Kd.R_base ho0) hb)
                       have n7_ := Aside0.mk (Kd.R_elder' (Kd.rU HO231.out) (Kd.R_base ho0) hb)
                       have n8_ := Aside0.mk (Kd.R_elder' (Kd.rU HO241.out) (Kd.R_base ho0) hb)
                       have n9_ := Aside0.mk (Kd.R_elder' (Kd.rU HO244.out) (Kd.R_base ho0) hb)
                       have n10_ := Aside0.mk (Kd.R_elder' (Kd.rU HO248.out) (Kd.R_base ho0) hb)
                       have n11_ := Aside0.mk (Kd.R_elder' (Kd.rU HO252.out) (Kd.R_base ho0) hb)
                       have n12_ := Aside0.mk (Kd.R_elder' (Kd.rU HO262.out) (Kd.R_base ho0) hb)
                       have n13_ := Aside0.mk (Kd.R_lower (Kd.R_newB (Kd.R_newB (Kd.R_newB (Kd.R_new' (Kd.R_new' (Kd.R_new' (Kd.R_new' (Kd.R_new' (Kd.R_new' (Kd.R_new' (Kd.R_new' (Kd.R_new' (Kd.R_new' (Kd.R_new' (Kd.R_new' (Kd.R_new' ho0 (Kd.R_lt (Kd.rU HO195.out))) (Kd.R_lt (Kd.rU HO199.out))) (Kd.R_lt (Kd.rU HO211.out))) (Kd.R_lt (Kd.rU HO215.out))) (Kd.R_lt (Kd.rU HO218.out))) (Kd.R_lt (Kd.rU HO223.out))) (Kd.R_lt (Kd.rU HO227.out))) (Kd.R_lt (Kd.rU HO231.out))) (Kd.R_lt (Kd.rU HO241.out))) (Kd.R_lt (Kd.rU HO244.out))) (Kd.R_lt (Kd.rU HO248.out))) (Kd.R_lt (Kd.rU HO252.out))) (Kd.R_lt (Kd.rU HO262.out))) (bU BK190.out)) (bU BK191.out)) (bU BK192.out)) (below_size (hU HB.out)))
                       have n14_ := Aside0.mk (blk_below (bU BK190.out) hb)
                       have n15_ := Aside0.mk (blk_below (bU BK191.out) hb)
                       have n16_ := Aside0.mk (blk_below (bU BK192.out) hb)
                       have n17_ := Aside0.mk (below_step (hU HB.out) hb)
                       clear HO195
                       clear HO199
                       clear HO211
                       clear HO215
                       clear HO218
                       clear HO223
                       clear HO227
                       clear HO231
                       clear HO241
                       clear HO244
                       clear HO248
                       clear HO252
                       clear HO262
                       clear BK190
                       clear BK191
                       clear BK192
                       clear HB
                       have HO195 := n0_
                       have HO199 := n1_
                       have HO211 := n2_
                       have HO215 := n3_
                       have HO218 := n4_
                       have HO223 := n5_
                       have HO227 := n6_
                       have HO231 := n7_
                       have HO241 := n8_
                       have HO244 := n9_
                       have HO248 := n10_
                       have HO252 := n11_
                       have HO262 := n12_
                       have HO266 := n13_
                       have BK190 := n14_
                       have BK191 := n15_
                       have BK192 := n16_
                       have HB := n17_
                       clear n0_ n1_ n2_ n3_ n4_ n5_ n6_ n7_ n8_ n9_ n10_ n11_ n12_ n13_ n14_ n15_ n16_ n17_
                       (try clear hb)
                       (try clear hb2)
                       (try clear hk)
                       (try clear hi)
                       (try clear ho0)
                       refine hK.out _ _ ⟨.slice Ao106 y250.length co106, .slice Ao107 y260.length co107, v265, (.tuple #[v265, .int .i64 t264]), m5_, m6_, m8_, (by rw [ha.out]; exact putSel_upk 4 hb_ rfl rfl rfl), (by (with_reducible repeat (first | apply Kd.R_alloc | apply Kd.R_drewN | apply Kd.R_drew)); exact Kd.R_mono HO195.out (fun _ hk => by revert hk; simp only [and_imp]; intros; (repeat' apply And.intro) <;> assumption)), (by (with_reducible repeat (first | apply Kd.R_alloc | apply Kd.R_drewN | apply Kd.R_drew)); exact Kd.R_mono HO199.out (fun _ hk => by revert hk; simp only [and_imp]; intros; (repeat' apply And.intro) <;> assumption)), (by (with_reducible repeat (first | apply Kd.R_alloc | apply Kd.R_drewN | apply Kd.R_drew)); exact Kd.R_mono HO211.out (fun _ hk => by revert hk; simp only [and_imp]; intros; (repeat' apply And.intro) <;> assumption)), (by (with_reducible repeat (first | apply Kd.R_alloc | apply Kd.R_drewN | apply Kd.R_drew)); exact Kd.R_mono HO215.out (fun _ hk => by revert hk; simp only [and_imp]; intros; (repeat' apply And.intro) <;> assumption)), (by (with_reducible repeat (first | apply Kd.R_alloc | apply Kd.R_drewN | apply Kd.R_drew)); exact Kd.R_mono HO218.out (fun _ hk => by revert hk; simp only [and_imp]; intros; (repeat' apply And.intro) <;> assumption)), (by (with_reducible repeat (first | apply Kd.R_alloc | apply Kd.R_drewN | apply Kd.R_drew)); exact Kd.R_mono HO223.out (fun _ hk => by revert hk; simp only [and_imp]; intros; (repeat' apply And.intro) <;> assumption)), (by (with_reducible repeat (first | apply Kd.R_alloc | apply Kd.R_drewN | apply Kd.R_drew)); exact Kd.R_mono HO227.out (fun _ hk => by revert hk; simp only [and_imp]; intros; (repeat' apply And.intro) <;> assumption)), (by (with_reducible repeat (first | apply Kd.R_alloc | apply Kd.R_drewN | apply Kd.R_drew)); exact Kd.R_mono HO231.out (fun _ hk => by revert hk; simp only [and_imp]; intros; (repeat' apply And.intro) <;> assumption)), (by (with_reducible repeat (first | apply Kd.R_alloc | apply Kd.R_drewN | apply Kd.R_drew)); exact Kd.R_mono HO241.out (fun _ hk => by revert hk; simp only [and_imp]; intros; (repeat' apply And.intro) <;> assumption)), (by (with_reducible repeat (first | apply Kd.R_alloc | apply Kd.R_drewN | apply Kd.R_drew)); exact Kd.R_mono HO244.out (fun _ hk => by revert hk; simp only [and_imp]; intros; (repeat' apply And.intro) <;> assumption)), (by (with_reducible repeat (first | apply Kd.R_alloc | apply Kd.R_drewN | apply Kd.R_drew)); exact Kd.R_mono HO248.out (fun _ hk => by revert hk; simp only [and_imp]; intros; (repeat' apply And.intro) <;> assumption)), (bU BK190.out), (bU BK191.out), (bU BK192.out), (hU HB.out), fun _ => (by (with_reducible repeat (first | apply Kd.R_alloc | apply Kd.R_drewN | apply Kd.R_drew)); exact Kd.R_mono HO252.out (fun _ hk => by revert hk; simp only [and_imp]; intros; (repeat' apply And.intro) <;> assumption)), fun _ => (by (with_reducible repeat (first | apply Kd.R_alloc | apply Kd.R_drewN | apply Kd.R_drew)); exact Kd.R_mono HO262.out (fun _ hk => by revert hk; simp only [and_imp]; intros; (repeat' apply And.intro) <;> assumption)), fun _ => (by (with_reducible repeat (first | apply Kd.R_alloc | apply Kd.R_drewN | apply Kd.R_drew)); exact Kd.R_mono HO266.out (fun _ hk => by revert hk; simp only [and_imp]; intros; (repeat' apply And.intro) <;> assumption)), fun _ => rfl, fun h0_ => absurd ((hoff 5 (by kernel_rfl)).symm.trans h0_) (by decide), fun h0_ => absurd ((hoff 6 (by kernel_rfl)).symm.trans h0_) (by decide), fun h0_ => absurd ((hoff 8 (by kernel_rfl)).symm.trans h0_) (by decide)⟩
                      refine steps_cons ?_ ?_
                      ·rintro b a w' ⟨v251, v261, v265, m4_, m5_, m6_, m8_, ha, Q_HO195, Q_HO199, Q_HO211, Q_HO215, Q_HO218, Q_HO223, Q_HO227, Q_HO231, Q_HO241, Q_HO244, Q_HO248, Q_BK190, Q_BK191, Q_BK192, Q_HB, Q_HO252, Q_HO262, Q_HO266, Q_X4_, Q_X5_, Q_X6_, Q_X8_⟩ hb_ hon hoff
                       refine ⟨_, rfl, fun K hK => ?_⟩
                       have e140 : a.tmps[140]? = some (m4_) := by rw [ha]; exact putSel_on (e := (4, 140, m4_)) 4 rfl rfl (hon 4 (by kernel_rfl)) rfl
                       rw [Q_X4_ (hon 4 (by kernel_rfl))] at e140
                       replace ha := Aside0.mk ha
                       have HO195 := Aside0.mk Q_HO195
                       have HO199 := Aside0.mk Q_HO199
                       have HO211 := Aside0.mk Q_HO211
                       have HO215 := Aside0.mk Q_HO215
                       have HO218 := Aside0.mk Q_HO218
                       have HO223 := Aside0.mk Q_HO223
                       have HO227 := Aside0.mk Q_HO227
                       have HO231 := Aside0.mk Q_HO231
                       have HO241 := Aside0.mk Q_HO241
                       have HO244 := Aside0.mk Q_HO244
                       have HO248 := Aside0.mk Q_HO248
                       have BK190 := Aside0.mk Q_BK190
                       have BK191 := Aside0.mk Q_BK191
                       have BK192 := Aside0.mk Q_BK192
                       have HB := Aside0.mk Q_HB
                       have HO252 := Aside0.mk (Q_HO252 (hon 1 (by kernel_rfl)))
                       have HO262 := Aside0.mk (Q_HO262 (hon 3 (by kernel_rfl)))
                       have HO266 := Aside0.mk (Q_HO266 (hon 4 (by kernel_rfl)))
                       refine value_ (w1 := w') (v := .tuple #[v265, .int .i64 t264]) (by rfl) rfl ?_ ?_
                       ·go_simp
                        (try simp only [i64_w])
                        try rfl
                       refine hK.out _ _ ⟨v251, v261, v265, m4_, (.tuple #[v265, .int .i64 t264]), m6_, m8_, (by rw [ha.out]; exact putSel_upk 5 hb_ rfl rfl rfl), Q_HO195, Q_HO199, Q_HO211, Q_HO215, Q_HO218, Q_HO223, Q_HO227, Q_HO231, Q_HO241, Q_HO244, Q_HO248, Q_BK190, Q_BK191, Q_BK192, Q_HB, Q_HO252, Q_HO262, Q_HO266, Q_X4_, fun _ => rfl, fun h0_ => absurd ((hoff 6 (by kernel_rfl)).symm.trans h0_) (by decide), fun h0_ => absurd ((hoff 8 (by kernel_rfl)).symm.trans h0_) (by decide)⟩
                      refine steps_cons ?_ ?_
                      ·rintro b a w' ⟨v251, v261, v265, m4_, m5_, m6_, m8_, ha, Q_HO195, Q_HO199, Q_HO211, Q_HO215, Q_HO218, Q_HO223, Q_HO227, Q_HO231, Q_HO241, Q_HO244, Q_HO248, Q_BK190, Q_BK191, Q_BK192, Q_HB, Q_HO252, Q_HO262, Q_HO266, Q_X4_, Q_X5_, Q_X6_, Q_X8_⟩ hb_ hon hoff
                       refine ⟨_, rfl, fun K hK => ?_⟩
                       have e135 : a.tmps[135]? = some (m5_) := by rw [ha]; exact putSel_on (e := (5, 135, m5_)) 5 rfl rfl (hon 5 (by kernel_rfl)) rfl
                       rw [Q_X5_ (hon 5 (by kernel_rfl))] at e135
                       replace ha := Aside0.mk ha
                       have HO195 := Aside0.mk Q_HO195
                       have HO199 := Aside0.mk Q_HO199
                       have HO211 := Aside0.mk Q_HO211
                       have HO215 := Aside0.mk Q_HO215
                       have HO218 := Aside0.mk Q_HO218
                       have HO223 := Aside0.mk Q_HO223
                       have HO227 := Aside0.mk Q_HO227
                       have HO231 := Aside0.mk Q_HO231
                       have HO241 := Aside0.mk Q_HO241
                       have HO244 := Aside0.mk Q_HO244
                       have HO248 := Aside0.mk Q_HO248
                       have BK190 := Aside0.mk Q_BK190
                       have BK191 := Aside0.mk Q_BK191
                       have BK192 := Aside0.mk Q_BK192
                       have HB := Aside0.mk Q_HB
                       have HO252 := Aside0.mk (Q_HO252 (hon 1 (by kernel_rfl)))
                       have HO262 := Aside0.mk (Q_HO262 (hon 3 (by kernel_rfl)))
                       have HO266 := Aside0.mk (Q_HO266 (hon 4 (by kernel_rfl)))
                       obtain ⟨Ao6_0, co6_0, eo_⟩ := Kd.R_slice HO266.out
                       subst eo_
                       refine value_ (w1 := w') (v := .slice Ao6_0 t263.length co6_0) (by rfl) rfl ?_ ?_
                       ·go_simp
                        (try simp only [i64_w])
                        try rfl
                       refine hK.out _ _ ⟨v251, v261, .slice Ao6_0 t263.length co6_0, m4_, m5_, (.slice Ao6_0 t263.length co6_0), m8_, (by rw [ha.out]; exact putSel_upk 6 hb_ rfl rfl rfl), Q_HO195, Q_HO199, Q_HO211, Q_HO215, Q_HO218, Q_HO223, Q_HO227, Q_HO231, Q_HO241, Q_HO244, Q_HO248, Q_BK190, Q_BK191, Q_BK192, Q_HB, Q_HO252, Q_HO262, Q_HO266, Q_X4_, Q_X5_, fun _ => rfl, fun h0_ => absurd ((hoff 8 (by kernel_rfl)).symm.trans h0_) (by decide)⟩
                      refine steps_cons ?_ ?_
                      ·rintro b a w' ⟨v251, v261, v265, m4_, m5_, m6_, m8_, ha, Q_HO195, Q_HO199, Q_HO211, Q_HO215, Q_HO218, Q_HO223, Q_HO227, Q_HO231, Q_HO241, Q_HO244, Q_HO248, Q_BK190, Q_BK191, Q_BK192, Q_HB, Q_HO252, Q_HO262, Q_HO266, Q_X4_, Q_X5_, Q_X6_, Q_X8_⟩ hb_ hon hoff
                       refine ⟨_, rfl, fun K hK => ?_⟩
                       have e135 : a.tmps[135]? = some (m5_) := by rw [ha]; exact putSel_on (e := (5, 135, m5_)) 5 rfl rfl (hon 5 (by kernel_rfl)) rfl
                       rw [Q_X5_ (hon 5 (by kernel_rfl))] at e135
                       replace ha := Aside0.mk ha
                       have HO195 := Aside0.mk Q_HO195
                       have HO199 := Aside0.mk Q_HO199
                       have HO211 := Aside0.mk Q_HO211
                       have HO215 := Aside0.mk Q_HO215
                       have HO218 := Aside0.mk Q_HO218
                       have HO223 := Aside0.mk Q_HO223
                       have HO227 := Aside0.mk Q_HO227
                       have HO231 := Aside0.mk Q_HO231
                       have HO241 := Aside0.mk Q_HO241
                       have HO244 := Aside0.mk Q_HO244
                       have HO248 := Aside0.mk Q_HO248
                       have BK190 := Aside0.mk Q_BK190
                       have BK191 := Aside0.mk Q_BK191
                       have BK192 := Aside0.mk Q_BK192
                       have HB := Aside0.mk Q_HB
                       have HO252 := Aside0.mk (Q_HO252 (hon 1 (by kernel_rfl)))
                       have HO262 := Aside0.mk (Q_HO262 (hon 3 (by kernel_rfl)))
                       have HO266 := Aside0.mk (Q_HO266 (hon 4 (by kernel_rfl)))
                       obtain ⟨Ao7_0, co7_0, eo_⟩ := Kd.R_slice HO266.out
                       subst eo_
                       refine value_ (w1 := w') (v := .int .i64 t264) (by rfl) rfl ?_ ?_
                       ·go_simp
                        (try simp only [i64_w])
                        try rfl
                       refine hK.out _ _ ⟨v251, v261, .slice Ao7_0 t263.length co7_0, m4_, m5_, m6_, m8_, (by rw [ha.out]; exact putSel_upk 7 hb_ rfl rfl rfl), Q_HO195, Q_HO199, Q_HO211, Q_HO215, Q_HO218, Q_HO223, Q_HO227, Q_HO231, Q_HO241, Q_HO244, Q_HO248, Q_BK190, Q_BK191, Q_BK192, Q_HB, Q_HO252, Q_HO262, Q_HO266, Q_X4_, Q_X5_, Q_X6_, Q_X8_⟩
                      refine steps_cons ?_ ?_
                      ·rintro b a w' ⟨v251, v261, v265, m4_, m5_, m6_, m8_, ha, Q_HO195, Q_HO199, Q_HO211, Q_HO215, Q_HO218, Q_HO223, Q_HO227, Q_HO231, Q_HO241, Q_HO244, Q_HO248, Q_BK190, Q_BK191, Q_BK192, Q_HB, Q_HO252, Q_HO262, Q_HO266, Q_X4_, Q_X5_, Q_X6_, Q_X8_⟩ hb_ hon hoff
                       refine ⟨_, rfl, fun K hK => ?_⟩
                       have e141 : a.tmps[141]? = some (m6_) := by rw [ha]; exact putSel_on (e := (6, 141, m6_)) 6 rfl rfl (hon 6 (by kernel_rfl)) rfl
                       rw [Q_X6_ (hon 6 (by kernel_rfl))] at e141
                       replace ha := Aside0.mk ha
                       have HO195 := Aside0.mk Q_HO195
                       have HO199 := Aside0.mk Q_HO199
                       have HO211 := Aside0.mk Q_HO211
                       have HO215 := Aside0.mk Q_HO215
                       have HO218 := Aside0.mk Q_HO218
                       have HO223 := Aside0.mk Q_HO223
                       have HO227 := Aside0.mk Q_HO227
                       have HO231 := Aside0.mk Q_HO231
                       have HO241 := Aside0.mk Q_HO241
                       have HO244 := Aside0.mk Q_HO244
                       have HO248 := Aside0.mk Q_HO248
                       have BK190 := Aside0.mk Q_BK190
                       have BK191 := Aside0.mk Q_BK191
                       have BK192 := Aside0.mk Q_BK192
                       have HB := Aside0.mk Q_HB
                       have HO252 := Aside0.mk (Q_HO252 (hon 1 (by kernel_rfl)))
                       have HO262 := Aside0.mk (Q_HO262 (hon 3 (by kernel_rfl)))
                       have HO266 := Aside0.mk (Q_HO266 (hon 4 (by kernel_rfl)))
                       refine value_ (w1 := w') (v := v265) (by rfl) rfl ?_ ?_
                       ·go_simp
                        (try simp only [i64_w])
                        try rfl
                       refine hK.out _ _ ⟨v251, v261, v265, m4_, m5_, m6_, (v265), (by rw [ha.out]; exact putSel_upk 8 hb_ rfl rfl rfl), Q_HO195, Q_HO199, Q_HO211, Q_HO215, Q_HO218, Q_HO223, Q_HO227, Q_HO231, Q_HO241, Q_HO244, Q_HO248, Q_BK190, Q_BK191, Q_BK192, Q_HB, Q_HO252, Q_HO262, Q_HO266, Q_X4_, Q_X5_, Q_X6_, fun _ => rfl⟩
                      refine steps_cons ?_ ?_
                      ·rintro b a w' ⟨v251, v261, v265, m4_, m5_, m6_, m8_, ha, Q_HO195, Q_HO199, Q_HO211, Q_HO215, Q_HO218, Q_HO223, Q_HO227, Q_HO231, Q_HO241, Q_HO244, Q_HO248, Q_BK190, Q_BK191, Q_BK192, Q_HB, Q_HO252, Q_HO262, Q_HO266, Q_X4_, Q_X5_, Q_X6_, Q_X8_⟩ hb_ hon hoff
                       refine ⟨_, rfl, fun K hK => ?_⟩
                       have e142 : a.tmps[142]? = some (.int .i64 t264) := by rw [ha]; exact putSel_on (e := (7, 142, .int .i64 t264)) 7 rfl rfl (hon 7 (by kernel_rfl)) rfl
                       replace ha := Aside0.mk ha
                       have HO195 := Aside0.mk Q_HO195
                       have HO199 := Aside0.mk Q_HO199
                       have HO211 := Aside0.mk Q_HO211
                       have HO215 := Aside0.mk Q_HO215
                       have HO218 := Aside0.mk Q_HO218
                       have HO223 := Aside0.mk Q_HO223
                       have HO227 := Aside0.mk Q_HO227
                       have HO231 := Aside0.mk Q_HO231
                       have HO241 := Aside0.mk Q_HO241
                       have HO244 := Aside0.mk Q_HO244
                       have HO248 := Aside0.mk Q_HO248
                       have BK190 := Aside0.mk Q_BK190
                       have BK191 := Aside0.mk Q_BK191
                       have BK192 := Aside0.mk Q_BK192
                       have HB := Aside0.mk Q_HB
                       have HO252 := Aside0.mk (Q_HO252 (hon 1 (by kernel_rfl)))
                       have HO262 := Aside0.mk (Q_HO262 (hon 3 (by kernel_rfl)))
                       have HO266 := Aside0.mk (Q_HO266 (hon 4 (by kernel_rfl)))
                       refine value_ (w1 := w') (v := .int .i64 t264) (by rfl) rfl ?_ ?_
                       ·go_simp
                        (try simp only [i64_w])
                        try rfl
                       refine hK.out _ _ ⟨v251, v261, v265, m4_, m5_, m6_, m8_, (by rw [ha.out]; exact putSel_upk 9 hb_ rfl rfl rfl), Q_HO195, Q_HO199, Q_HO211, Q_HO215, Q_HO218, Q_HO223, Q_HO227, Q_HO231, Q_HO241, Q_HO244, Q_HO248, Q_BK190, Q_BK191, Q_BK192, Q_HB, Q_HO252, Q_HO262, Q_HO266, Q_X4_, Q_X5_, Q_X6_, Q_X8_⟩
                      exact steps_nil
                     rintro b a w108 hall ⟨v251, v261, v265, m4_, m5_, m6_, m8_, ha, Q_HO195, Q_HO199, Q_HO211, Q_HO215, Q_HO218, Q_HO223, Q_HO227, Q_HO231, Q_HO241, Q_HO244, Q_HO248, Q_BK190, Q_BK191, Q_BK192, Q_HB, Q_HO252, Q_HO262, Q_HO266, Q_X4_, Q_X5_, Q_X6_, Q_X8_⟩
                     clear BK190 BK191 BK192 HB HO195 HO199 HO211 HO215 HO218 HO223 HO227 HO231 HO241 HO244 HO248
                     have hb0_ := hall 0 (by kernel_rfl)
                     have hb1_ := hall 1 (by kernel_rfl)
                     have hb2_ := hall 2 (by kernel_rfl)
                     have hb3_ := hall 3 (by kernel_rfl)
                     have hb4_ := hall 4 (by kernel_rfl)
                     have hb5_ := hall 5 (by kernel_rfl)
                     have hb6_ := hall 6 (by kernel_rfl)
                     have hb7_ := hall 7 (by kernel_rfl)
                     have hb8_ := hall 8 (by kernel_rfl)
                     have hb9_ := hall 9 (by kernel_rfl)
                     subst ha
                     obtain rfl := Q_X4_ hb4_
                     obtain rfl := Q_X5_ hb5_
                     obtain rfl := Q_X6_ hb6_
                     obtain rfl := Q_X8_ hb8_
                     simp only [putSel, hb0_, hb1_, hb2_, hb3_, hb4_, hb5_, hb6_, hb7_, hb8_, hb9_, if_true, Act.put, List.setIfInBounds_toArray, List.set_cons_zero, List.set_cons_succ]
                     have HO195 := Aside0.mk Q_HO195
                     clear Q_HO195
                     have HO199 := Aside0.mk Q_HO199
                     clear Q_HO199
                     have HO211 := Aside0.mk Q_HO211
                     clear Q_HO211
                     have HO215 := Aside0.mk Q_HO215
                     clear Q_HO215
                     have HO218 := Aside0.mk Q_HO218
                     clear Q_HO218
                     have HO223 := Aside0.mk Q_HO223
                     clear Q_HO223
                     have HO227 := Aside0.mk Q_HO227
                     clear Q_HO227
                     have HO231 := Aside0.mk Q_HO231
                     clear Q_HO231
                     have HO241 := Aside0.mk Q_HO241
                     clear Q_HO241
                     have HO244 := Aside0.mk Q_HO244
                     clear Q_HO244
                     have HO248 := Aside0.mk Q_HO248
                     clear Q_HO248
                     have BK190 := Aside0.mk Q_BK190
                     clear Q_BK190
                     have BK191 := Aside0.mk Q_BK191
                     clear Q_BK191
                     have BK192 := Aside0.mk Q_BK192
                     clear Q_BK192
                     have HB := Aside0.mk Q_HB
                     clear Q_HB
                     have HO252 := Aside0.mk (Q_HO252 hb1_)
                     clear Q_HO252
                     have HO262 := Aside0.mk (Q_HO262 hb3_)
                     clear Q_HO262
                     have HO266 := Aside0.mk (Q_HO266 hb4_)
                     clear Q_HO266
                     clear hall hb0_ hb1_ hb2_ hb3_ hb4_ hb5_ hb6_ hb7_ hb8_ hb9_
                     try go_wp2_with (first | ((with_reducible refine gate_callee (f := 28) rfl ?_); refine goesL_ (some 145) rfl rfl Try.func28 (by kernel_rfl) rfl #[.slice Ao61 y193.length co61, .int .i64 48, .int .i64 8] rfl (by (try simp only [List.map_toArray, List.map_cons, List.map_nil]); first | done | rfl | (simp only [List.length_drop, List.length_take]; rfl)) ?_; (with_reducible refine (staff_Column.calls _ _ y193 48 8 t267 t268 _ ?side1 ?side2 A35.out).mono ?_); (case side1 => repeat (first | exact (Kd.R_reads' HO195.out).2.2 | (with_reducible refine Kd.C_alloc ?_ _) | (with_reducible refine Kd.C_drewN ?_ _) | (with_reducible refine Kd.C_drew ?_))); (case side2 => exact (Kd.R_reads' HO195.out).2.1); rintro e w109 ⟨v269, rfl, ho0, hb⟩; refine ⟨_, rfl, ?_⟩; have n0_ := Aside0.mk (Kd.R_elder' (Kd.rU HO195.out) (Kd.R_base ho0) hb); have n1_ := Aside0.mk (Kd.R_elder' (Kd.rU HO199.out) (Kd.R_base ho0) hb); have n2_ := Aside0.mk (Kd.R_elder' (Kd.rU HO211.out) (Kd.R_base ho0) hb); have n3_ := Aside0.mk (Kd.R_elder' (Kd.rU HO215.out) (Kd.R_base ho0) hb); have n4_ := Aside0.mk (Kd.R_elder' (Kd.rU HO218.out) (Kd.R_base ho0) hb); have n5_ := Aside0.mk (Kd.R_elder' (Kd.rU HO223.out) (Kd.R_base ho0) hb); have n6_ := Aside0.mk (Kd.R_elder' (Kd.rU HO227.out) (Kd.R_base ho0) hb); have n7_ := Aside0.mk (Kd.R_elder' (Kd.rU HO231.out) (Kd.R_base ho0) hb); have n8_ := Aside0.mk (Kd.R_elder' (Kd.rU HO241.out) (Kd.R_base ho0) hb); have n9_ := Aside0.mk (Kd.R_elder' (Kd.rU HO244.out) (Kd.R_base ho0) hb); have n10_ := Aside0.mk (Kd.R_elder' (Kd.rU HO248.out) (Kd.R_base ho0) hb); have n11_ := Aside0.mk (Kd.R_elder' (Kd.rU HO252.out) (Kd.R_base ho0) hb); have n12_ := Aside0.mk (Kd.R_elder' (Kd.rU HO262.out) (Kd.R_base ho0) hb); have n13_ := Aside0.mk (Kd.R_elder' (Kd.rU HO266.out) (Kd.R_base ho0) hb); have n14_ := Aside0.mk (Kd.R_lower (Kd.R_newB (Kd.R_newB (Kd.R_newB (Kd.R_new' (Kd.R_new' (Kd.R_new' (Kd.R_new' (Kd.R_new' (Kd.R_new' (Kd.R_new' (Kd.R_new' (Kd.R_new' (Kd.R_new' (Kd.R_new' (Kd.R_new' (Kd.R_new' (Kd.R_new' ho0 (Kd.R_lt (Kd.rU HO195.out))) (Kd.R_lt (Kd.rU HO199.out))) (Kd.R_lt (Kd.rU HO211.out))) (Kd.R_lt (Kd.rU HO215.out))) (Kd.R_lt (Kd.rU HO218.out))) (Kd.R_lt (Kd.rU HO223.out))) (Kd.R_lt (Kd.rU HO227.out))) (Kd.R_lt (Kd.rU HO231.out))) (Kd.R_lt (Kd.rU HO241.out))) (Kd.R_lt (Kd.rU HO244.out))) (Kd.R_lt (Kd.rU HO248.out))) (Kd.R_lt (Kd.rU HO252.out))) (Kd.R_lt (Kd.rU HO262.out))) (Kd.R_lt (Kd.rU HO266.out))) (bU BK190.out)) (bU BK191.out)) (bU BK192.out)) (below_size (hU HB.out))); have n15_ := Aside0.mk (blk_below (bU BK190.out) hb); have n16_ := Aside0.mk (blk_below (bU BK191.out) hb); have n17_ := Aside0.mk (blk_below (bU BK192.out) hb); have n18_ := Aside0.mk (below_step (hU HB.out) hb); clear HO195; clear HO199; clear HO211; clear HO215; clear HO218; clear HO223; clear HO227; clear HO231; clear HO241; clear HO244; clear HO248; clear HO252; clear HO262; clear HO266; clear BK190; clear BK191; clear BK192; clear HB; have HO195 := n0_; have HO199 := n1_; have HO211 := n2_; have HO215 := n3_; have HO218 := n4_; have HO223 := n5_; have HO227 := n6_; have HO231 := n7_; have HO241 := n8_; have HO244 := n9_; have HO248 := n10_; have HO252 := n11_; have HO262 := n12_; have HO266 := n13_; have HO270 := n14_; have BK190 := n15_; have BK191 := n16_; have BK192 := n17_; have HB := n18_; clear n0_ n1_ n2_ n3_ n4_ n5_ n6_ n7_ n8_ n9_ n10_ n11_ n12_ n13_ n14_ n15_ n16_ n17_ n18_; (try clear hb); (try clear hb2); (try clear hk); (try clear hi); (try clear ho0)) | (go_at_call 60; (with_reducible refine (dancestudiolaw24_turn.calls 0 t271 t272 t273 t274 t275 t276 t277 _ A40.out).mono ?_); rintro e w110 ⟨rfl, hb⟩; have n0_ := Aside0.mk (Kd.R_below (Kd.rU HO195.out) hb); have n1_ := Aside0.mk (Kd.R_below (Kd.rU HO199.out) hb); have n2_ := Aside0.mk (Kd.R_below (Kd.rU HO211.out) hb); have n3_ := Aside0.mk (Kd.R_below (Kd.rU HO215.out) hb); have n4_ := Aside0.mk (Kd.R_below (Kd.rU HO218.out) hb); have n5_ := Aside0.mk (Kd.R_below (Kd.rU HO223.out) hb); have n6_ := Aside0.mk (Kd.R_below (Kd.rU HO227.out) hb); have n7_ := Aside0.mk (Kd.R_below (Kd.rU HO231.out) hb); have n8_ := Aside0.mk (Kd.R_below (Kd.rU HO241.out) hb); have n9_ := Aside0.mk (Kd.R_below (Kd.rU HO244.out) hb); have n10_ := Aside0.mk (Kd.R_below (Kd.rU HO248.out) hb); have n11_ := Aside0.mk (Kd.R_below (Kd.rU HO252.out) hb); have n12_ := Aside0.mk (Kd.R_below (Kd.rU HO262.out) hb); have n13_ := Aside0.mk (Kd.R_below (Kd.rU HO266.out) hb); have n14_ := Aside0.mk (Kd.R_below (Kd.rU HO270.out) hb); have n15_ := Aside0.mk (blk_below (bU BK190.out) hb); have n16_ := Aside0.mk (blk_below (bU BK191.out) hb); have n17_ := Aside0.mk (blk_below (bU BK192.out) hb); have n18_ := Aside0.mk (below_step (hU HB.out) hb); clear HO195; clear HO199; clear HO211; clear HO215; clear HO218; clear HO223; clear HO227; clear HO231; clear HO241; clear HO244; clear HO248; clear HO252; clear HO262; clear HO266; clear HO270; clear BK190; clear BK191; clear BK192; clear HB; have HO195 := n0_; have HO199 := n1_; have HO211 := n2_; have HO215 := n3_; have HO218 := n4_; have HO223 := n5_; have HO227 := n6_; have HO231 := n7_; have HO241 := n8_; have HO244 := n9_; have HO248 := n10_; have HO252 := n11_; have HO262 := n12_; have HO266 := n13_; have HO270 := n14_; have BK190 := n15_; have BK191 := n16_; have BK192 := n17_; have HB := n18_; clear n0_ n1_ n2_ n3_ n4_ n5_ n6_ n7_ n8_ n9_ n10_ n11_ n12_ n13_ n14_ n15_ n16_ n17_ n18_; (try clear hb); (try clear hb2); (try clear hk); (try clear hi)) | ((with_reducible refine gate_dst (N := 165) rfl ?_); (try (refine gate_guard (by rfl) ?_; dsimp only)); refine Kd.R_lit k29 _ 29 ?hg (N := 165) ?hd (xs := ([(⟨t271, t272, t273, t274, t275, t276, t277⟩ : S29)] : List (S29))) (inner := [.int .i64 t271, .int .i64 t272, .int .i64 t273, .int .i64 t274, .int .i64 t275, .int .i64 t276, .int .i64 t277]) (ok := fun _ => True) (okp := fun _ => True) ?hr ?hp (fun _ hk => hk) trivial (Below.refl _ _) (Nat.le_refl _) (by simp) ?_; (case hd => rfl); (case hg => rfl); (case hr => first | (go_simp; done) | (go_simp; rfl)); (case hp => exact (Reps.c7 (show Kd.M k29 _ _ _ (⟨t271, t272, t273, t274, t275, t276, t277⟩ : S29) [.int .i64 t271, .int .i64 t272, .int .i64 t273, .int .i64 t274, .int .i64 t275, .int .i64 t276, .int .i64 t277] from (k29_mkM _ _ _ (⟨t271, t272, t273, t274, t275, t276, t277⟩ : S29) )) (Reps.none _ _))); intro v279 w111 ho112 hb hg_ hnew_; clear hg_ hnew_; (first | rw [← Ny278.out] at ho112 | (simp only [Int.reduceToNat] at ho112; rw [← Ny278.out] at ho112)); have n0_ := Aside0.mk (Kd.R_elder' (Kd.rU HO195.out) (Kd.R_base ho112) hb); have n1_ := Aside0.mk (Kd.R_elder' (Kd.rU HO199.out) (Kd.R_base ho112) hb); have n2_ := Aside0.mk (Kd.R_elder' (Kd.rU HO211.out) (Kd.R_base ho112) hb); have n3_ := Aside0.mk (Kd.R_elder' (Kd.rU HO215.out) (Kd.R_base ho112) hb); have n4_ := Aside0.mk (Kd.R_elder' (Kd.rU HO218.out) (Kd.R_base ho112) hb); have n5_ := Aside0.mk (Kd.R_elder' (Kd.rU HO223.out) (Kd.R_base ho112) hb); have n6_ := Aside0.mk (Kd.R_elder' (Kd.rU HO227.out) (Kd.R_base ho112) hb); have n7_ := Aside0.mk (Kd.R_elder' (Kd.rU HO231.out) (Kd.R_base ho112) hb); have n8_ := Aside0.mk (Kd.R_elder' (Kd.rU HO241.out) (Kd.R_base ho112) hb); have n9_ := Aside0.mk (Kd.R_elder' (Kd.rU HO244.out) (Kd.R_base ho112) hb); have n10_ := Aside0.mk (Kd.R_elder' (Kd.rU HO248.out) (Kd.R_base ho112) hb); have n11_ := Aside0.mk (Kd.R_elder' (Kd.rU HO252.out) (Kd.R_base ho112) hb); have n12_ := Aside0.mk (Kd.R_elder' (Kd.rU HO262.out) (Kd.R_base ho112) hb); have n13_ := Aside0.mk (Kd.R_elder' (Kd.rU HO266.out) (Kd.R_base ho112) hb); have n14_ := Aside0.mk (Kd.R_elder' (Kd.rU HO270.out) (Kd.R_base ho112) hb); have n15_ := Aside0.mk (Kd.R_lower (Kd.R_newB (Kd.R_newB (Kd.R_newB (Kd.R_new' (Kd.R_new' (Kd.R_new' (Kd.R_new' (Kd.R_new' (Kd.R_new' (Kd.R_new' (Kd.R_new' (Kd.R_new' (Kd.R_new' (Kd.R_new' (Kd.R_new' (Kd.R_new' (Kd.R_new' (Kd.R_new' ho112 (Kd.R_lt (Kd.rU HO195.out))) (Kd.R_lt (Kd.rU HO199.out))) (Kd.R_lt (Kd.rU HO211.out))) (Kd.R_lt (Kd.rU HO215.out))) (Kd.R_lt (Kd.rU HO218.out))) (Kd.R_lt (Kd.rU HO223.out))) (Kd.R_lt (Kd.rU HO227.out))) (Kd.R_lt (Kd.rU HO231.out))) (Kd.R_lt (Kd.rU HO241.out))) (Kd.R_lt (Kd.rU HO244.out))) (Kd.R_lt (Kd.rU HO248.out))) (Kd.R_lt (Kd.rU HO252.out))) (Kd.R_lt (Kd.rU HO262.out))) (Kd.R_lt (Kd.rU HO266.out))) (Kd.R_lt (Kd.rU HO270.out))) (bU BK190.out)) (bU BK191.out)) (bU BK192.out)) (below_size (hU HB.out))); have n16_ := Aside0.mk (blk_below (bU BK190.out) hb); have n17_ := Aside0.mk (blk_below (bU BK191.out) hb); have n18_ := Aside0.mk (blk_below (bU BK192.out) hb); have n19_ := Aside0.mk (below_step (hU HB.out) hb); clear HO195; clear HO199; clear HO211; clear HO215; clear HO218; clear HO223; clear HO227; clear HO231; clear HO241; clear HO244; clear HO248; clear HO252; clear HO262; clear HO266; clear HO270; clear BK190; clear BK191; clear BK192; clear HB; have HO195 := n0_; have HO199 := n1_; have HO211 := n2_; have HO215 := n3_; have HO218 := n4_; have HO223 := n5_; have HO227 := n6_; have HO231 := n7_; have HO241 := n8_; have HO244 := n9_; have HO248 := n10_; have HO252 := n11_; have HO262 := n12_; have HO266 := n13_; have HO270 := n14_; have HO280 := n15_; have BK190 := n16_; have BK191 := n17_; have BK192 := n18_; have HB := n19_; clear n0_ n1_ n2_ n3_ n4_ n5_ n6_ n7_ n8_ n9_ n10_ n11_ n12_ n13_ n14_ n15_ n16_ n17_ n18_ n19_; clear hb ho112; obtain ⟨Ao113, co113, eo113⟩ := Kd.R_slice HO244.out; subst eo113; obtain ⟨Ao114, co114, eo114⟩ := Kd.R_slice HO280.out; subst eo114) | (go_at_call 27; (with_reducible refine (dancestudioref24_Same.calls k _ _ t242 _ _ y278 true _ ?side1 ?side2 ?side3 ?side4 A41.out).mono ?_); (case side1 => repeat (first | exact (Kd.R_reads' HO244.out).2.2 | (with_reducible refine Kd.C_alloc ?_ _) | (with_reducible refine Kd.C_drewN ?_ _) | (with_reducible refine Kd.C_drew ?_))); (case side2 => exact (Kd.R_reads' HO244.out).2.1); (case side3 => repeat (first | exact (Kd.R_reads' HO280.out).2.2 | (with_reducible refine Kd.C_alloc ?_ _) | (with_reducible refine Kd.C_drewN ?_ _) | (with_reducible refine Kd.C_drew ?_))); (case side4 => exact (Kd.R_reads' HO280.out).2.1); rintro e w' ⟨rfl, ⟨nd, rfl⟩⟩; have hcz115_0 := blk_cell BK190.out; have hfz115_0 := blk_frozen BK190.out; have hcz116_0 := blk_cell BK192.out; have hfz116_0 := blk_frozen BK192.out) | ((with_reducible refine gate_dst (N := 172) rfl ?_); (try (refine gate_guard (by rfl) ?_; dsimp only)); refine Kd.R_lit k29 _ 29 ?hg (N := 172) ?hd (xs := ([(⟨t169, t170, t171, t172, t173, t174, t175⟩ : S29), (⟨t183, t184, t185, t186, t187, t188, t189⟩ : S29)] : List (S29))) (inner := [.int .i64 t169, .int .i64 t170, .int .i64 t171, .int .i64 t172, .int .i64 t173, .int .i64 t174, .int .i64 t175, .int .i64 t183, .int .i64 t184, .int .i64 t185, .int .i64 t186, .int .i64 t187, .int .i64 t188, .int .i64 t189]) (ok := fun _ => True) (okp := fun _ => True) ?hr ?hp (fun _ hk => hk) trivial (Below.refl _ _) (Nat.le_refl _) (by simp) ?_; (case hd => rfl); (case hg => rfl); (case hr => first | (go_simp; done) | (go_simp; rfl)); (case hp => exact (Reps.c7 (show Kd.M k29 _ _ _ (⟨t169, t170, t171, t172, t173, t174, t175⟩ : S29) [.int .i64 t169, .int .i64 t170, .int .i64 t171, .int .i64 t172, .int .i64 t173, .int .i64 t174, .int .i64 t175] from (k29_mkM _ _ _ (⟨t169, t170, t171, t172, t173, t174, t175⟩ : S29) )) (Reps.c7 (show Kd.M k29 _ _ _ (⟨t183, t184, t185, t186, t187, t188, t189⟩ : S29) [.int .i64 t183, .int .i64 t184, .int .i64 t185, .int .i64 t186, .int .i64 t187, .int .i64 t188, .int .i64 t189] from (k29_mkM _ _ _ (⟨t183, t184, t185, t186, t187, t188, t189⟩ : S29) )) (Reps.none _ _)))); intro v283 w117 ho118 hb hg_ hnew_; clear hg_ hnew_; (first | rw [← Ny282.out] at ho118 | (simp only [Int.reduceToNat] at ho118; rw [← Ny282.out] at ho118)); have n0_ := Aside0.mk (Kd.R_elder' (Kd.rU HO195.out) (Kd.R_base ho118) hb); have n1_ := Aside0.mk (Kd.R_elder' (Kd.rU HO199.out) (Kd.R_base ho118) hb); have n2_ := Aside0.mk (Kd.R_elder' (Kd.rU HO211.out) (Kd.R_base ho118) hb); have n3_ := Aside0.mk (Kd.R_elder' (Kd.rU HO215.out) (Kd.R_base ho118) hb); have n4_ := Aside0.mk (Kd.R_elder' (Kd.rU HO218.out) (Kd.R_base ho118) hb); have n5_ := Aside0.mk (Kd.R_elder' (Kd.rU HO223.out) (Kd.R_base ho118) hb); have n6_ := Aside0.mk (Kd.R_elder' (Kd.rU HO227.out) (Kd.R_base ho118) hb); have n7_ := Aside0.mk (Kd.R_elder' (Kd.rU HO231.out) (Kd.R_base ho118) hb); have n8_ := Aside0.mk (Kd.R_elder' (Kd.rU HO241.out) (Kd.R_base ho118) hb); have n9_ := Aside0.mk (Kd.R_elder' (Kd.rU HO244.out) (Kd.R_base ho118) hb); have n10_ := Aside0.mk (Kd.R_elder' (Kd.rU HO248.out) (Kd.R_base ho118) hb); have n11_ := Aside0.mk (Kd.R_elder' (Kd.rU HO252.out) (Kd.R_base ho118) hb); have n12_ := Aside0.mk (Kd.R_elder' (Kd.rU HO262.out) (Kd.R_base ho118) hb); have n13_ := Aside0.mk (Kd.R_elder' (Kd.rU HO266.out) (Kd.R_base ho118) hb); have n14_ := Aside0.mk (Kd.R_elder' (Kd.rU HO270.out) (Kd.R_base ho118) hb); have n15_ := Aside0.mk (Kd.R_elder' (Kd.rU HO280.out) (Kd.R_base ho118) hb); have n16_ := Aside0.mk (Kd.R_lower (Kd.R_newB (Kd.R_newB (Kd.R_newB (Kd.R_new' (Kd.R_new' (Kd.R_new' (Kd.R_new' (Kd.R_new' (Kd.R_new' (Kd.R_new' (Kd.R_new' (Kd.R_new' (Kd.R_new' (Kd.R_new' (Kd.R_new' (Kd.R_new' (Kd.R_new' (Kd.R_new' (Kd.R_new' ho118 (Kd.R_lt (Kd.rU HO195.out))) (Kd.R_lt (Kd.rU HO199.out))) (Kd.R_lt (Kd.rU HO211.out))) (Kd.R_lt (Kd.rU HO215.out))) (Kd.R_lt (Kd.rU HO218.out))) (Kd.R_lt (Kd.rU HO223.out))) (Kd.R_lt (Kd.rU HO227.out))) (Kd.R_lt (Kd.rU HO231.out))) (Kd.R_lt (Kd.rU HO241.out))) (Kd.R_lt (Kd.rU HO244.out))) (Kd.R_lt (Kd.rU HO248.out))) (Kd.R_lt (Kd.rU HO252.out))) (Kd.R_lt (Kd.rU HO262.out))) (Kd.R_lt (Kd.rU HO266.out))) (Kd.R_lt (Kd.rU HO270.out))) (Kd.R_lt (Kd.rU HO280.out))) (bU BK190.out)) (bU BK191.out)) (bU BK192.out)) (below_size (hU HB.out))); have n17_ := Aside0.mk (blk_below (bU BK190.out) hb); have n18_ := Aside0.mk (blk_below (bU BK191.out) hb); have n19_ := Aside0.mk (blk_below (bU BK192.out) hb); have n20_ := Aside0.mk (below_step (hU HB.out) hb); clear HO195; clear HO199; clear HO211; clear HO215; clear HO218; clear HO223; clear HO227; clear HO231; clear HO241; clear HO244; clear HO248; clear HO252; clear HO262; clear HO266; clear HO270; clear HO280; clear BK190; clear BK191; clear BK192; clear HB; have HO195 := n0_; have HO199 := n1_; have HO211 := n2_; have HO215 := n3_; have HO218 := n4_; have HO223 := n5_; have HO227 := n6_; have HO231 := n7_; have HO241 := n8_; have HO244 := n9_; have HO248 := n10_; have HO252 := n11_; have HO262 := n12_; have HO266 := n13_; have HO270 := n14_; have HO280 := n15_; have HO284 := n16_; have BK190 := n17_; have BK191 := n18_; have BK192 := n19_; have HB := n20_; clear n0_ n1_ n2_ n3_ n4_ n5_ n6_ n7_ n8_ n9_ n10_ n11_ n12_ n13_ n14_ n15_ n16_ n17_ n18_ n19_ n20_; clear hb ho118; obtain ⟨Ao119, co119, eo119⟩ := Kd.R_slice HO266.out; subst eo119; obtain ⟨Ao120, co120, eo120⟩ := Kd.R_slice HO284.out; subst eo120) | (go_at_call 27; (with_reducible refine (dancestudioref24_Same.calls k _ _ t263 _ _ y282 true _ ?side1 ?side2 ?side3 ?side4 A43.out).mono ?_); (case side1 => repeat (first | exact (Kd.R_reads' HO266.out).2.2 | (with_reducible refine Kd.C_alloc ?_ _) | (with_reducible refine Kd.C_drewN ?_ _) | (with_reducible refine Kd.C_drew ?_))); (case side2 => exact (Kd.R_reads' HO266.out).2.1); (case side3 => repeat (first | exact (Kd.R_reads' HO284.out).2.2 | (with_reducible refine Kd.C_alloc ?_ _) | (with_reducible refine Kd.C_drewN ?_ _) | (with_reducible refine Kd.C_drew ?_))); (case side4 => exact (Kd.R_reads' HO284.out).2.1); rintro e w' ⟨rfl, ⟨nd, rfl⟩⟩; have hcz121_0 := blk_cell BK192.out; have hfz121_0 := blk_frozen BK192.out) | ((with_reducible refine gate_dst (N := 178) rfl ?_); (try (refine gate_guard (by rfl) ?_; dsimp only)); refine Kd.R_lit k29 _ 29 ?hg (N := 178) ?hd (xs := ([(⟨t183, t184, t185, t186, t187, t188, t189⟩ : S29)] : List (S29))) (inner := [.int .i64 t183, .int .i64 t184, .int .i64 t185, .int .i64 t186, .int .i64 t187, .int .i64 t188, .int .i64 t189]) (ok := fun _ => True) (okp := fun _ => True) ?hr ?hp (fun _ hk => hk) trivial (Below.refl _ _) (Nat.le_refl _) (by simp) ?_; (case hd => rfl); (case hg => rfl); (case hr => first | (go_simp; done) | (go_simp; rfl)); (case hp => exact (Reps.c7 (show Kd.M k29 _ _ _ (⟨t183, t184, t185, t186, t187, t188, t189⟩ : S29) [.int .i64 t183, .int .i64 t184, .int .i64 t185, .int .i64 t186, .int .i64 t187, .int .i64 t188, .int .i64 t189] from (k29_mkM _ _ _ (⟨t183, t184, t185, t186, t187, t188, t189⟩ : S29) )) (Reps.none _ _))); intro v287 w122 ho123 hb hg_ hnew_; clear hg_ hnew_; (first | rw [← Ny286.out] at ho123 | (simp only [Int.reduceToNat] at ho123; rw [← Ny286.out] at ho123)); have n0_ := Aside0.mk (Kd.R_elder' (Kd.rU HO195.out) (Kd.R_base ho123) hb); have n1_ := Aside0.mk (Kd.R_elder' (Kd.rU HO199.out) (Kd.R_base ho123) hb); have n2_ := Aside0.mk (Kd.R_elder' (Kd.rU HO211.out) (Kd.R_base ho123) hb); have n3_ := Aside0.mk (Kd.R_elder' (Kd.rU HO215.out) (Kd.R_base ho123) hb); have n4_ := Aside0.mk (Kd.R_elder' (Kd.rU HO218.out) (Kd.R_base ho123) hb); have n5_ := Aside0.mk (Kd.R_elder' (Kd.rU HO223.out) (Kd.R_base ho123) hb); have n6_ := Aside0.mk (Kd.R_elder' (Kd.rU HO227.out) (Kd.R_base ho123) hb); have n7_ := Aside0.mk (Kd.R_elder' (Kd.rU HO231.out) (Kd.R_base ho123) hb); have n8_ := Aside0.mk (Kd.R_elder' (Kd.rU HO241.out) (Kd.R_base ho123) hb); have n9_ := Aside0.mk (Kd.R_elder' (Kd.rU HO244.out) (Kd.R_base ho123) hb); have n10_ := Aside0.mk (Kd.R_elder' (Kd.rU HO248.out) (Kd.R_base ho123) hb); have n11_ := Aside0.mk (Kd.R_elder' (Kd.rU HO252.out) (Kd.R_base ho123) hb); have n12_ := Aside0.mk (Kd.R_elder' (Kd.rU HO262.out) (Kd.R_base ho123) hb); have n13_ := Aside0.mk (Kd.R_elder' (Kd.rU HO266.out) (Kd.R_base ho123) hb); have n14_ := Aside0.mk (Kd.R_elder' (Kd.rU HO270.out) (Kd.R_base ho123) hb); have n15_ := Aside0.mk (Kd.R_elder' (Kd.rU HO280.out) (Kd.R_base ho123) hb); have n16_ := Aside0.mk (Kd.R_elder' (Kd.rU HO284.out) (Kd.R_base ho123) hb); have n17_ := Aside0.mk (Kd.R_lower (Kd.R_newB (Kd.R_newB (Kd.R_newB (Kd.R_new' (Kd.R_new' (Kd.R_new' (Kd.R_new' (Kd.R_new' (Kd.R_new' (Kd.R_new' (Kd.R_new' (Kd.R_new' (Kd.R_new' (Kd.R_new' (Kd.R_new' (Kd.R_new' (Kd.R_new' (Kd.R_new' (Kd.R_new' (Kd.R_new' ho123 (Kd.R_lt (Kd.rU HO195.out))) (Kd.R_lt (Kd.rU HO199.out))) (Kd.R_lt (Kd.rU HO211.out))) (Kd.R_lt (Kd.rU HO215.out))) (Kd.R_lt (Kd.rU HO218.out))) (Kd.R_lt (Kd.rU HO223.out))) (Kd.R_lt (Kd.rU HO227.out))) (Kd.R_lt (Kd.rU HO231.out))) (Kd.R_lt (Kd.rU HO241.out))) (Kd.R_lt (Kd.rU HO244.out))) (Kd.R_lt (Kd.rU HO248.out))) (Kd.R_lt (Kd.rU HO252.out))) (Kd.R_lt (Kd.rU HO262.out))) (Kd.R_lt (Kd.rU HO266.out))) (Kd.R_lt (Kd.rU HO270.out))) (Kd.R_lt (Kd.rU HO280.out))) (Kd.R_lt (Kd.rU HO284.out))) (bU BK190.out)) (bU BK191.out)) (bU BK192.out)) (below_size (hU HB.out))); have n18_ := Aside0.mk (blk_below (bU BK190.out) hb); have n19_ := Aside0.mk (blk_below (bU BK191.out) hb); have n20_ := Aside0.mk (blk_below (bU BK192.out) hb); have n21_ := Aside0.mk (below_step (hU HB.out) hb); clear HO195; clear HO199; clear HO211; clear HO215; clear HO218; clear HO223; clear HO227; clear HO231; clear HO241; clear HO244; clear HO248; clear HO252; clear HO262; clear HO266; clear HO270; clear HO280; clear HO284; clear BK190; clear BK191; clear BK192; clear HB; have HO195 := n0_; have HO199 := n1_; have HO211 := n2_; have HO215 := n3_; have HO218 := n4_; have HO223 := n5_; have HO227 := n6_; have HO231 := n7_; have HO241 := n8_; have HO244 := n9_; have HO248 := n10_; have HO252 := n11_; have HO262 := n12_; have HO266 := n13_; have HO270 := n14_; have HO280 := n15_; have HO284 := n16_; have HO288 := n17_; have BK190 := n18_; have BK191 := n19_; have BK192 := n20_; have HB := n21_; clear n0_ n1_ n2_ n3_ n4_ n5_ n6_ n7_ n8_ n9_ n10_ n11_ n12_ n13_ n14_ n15_ n16_ n17_ n18_ n19_ n20_ n21_; clear hb ho123; obtain ⟨Ao124, co124, eo124⟩ := Kd.R_slice HO270.out; subst eo124; obtain ⟨Ao125, co125, eo125⟩ := Kd.R_slice HO288.out; subst eo125) | (go_at_call 27; (with_reducible refine (dancestudioref24_Same.calls k _ _ t267 _ _ y286 t289 _ ?side1 ?side2 ?side3 ?side4 A45.out).mono ?_); (case side1 => repeat (first | exact (Kd.R_reads' HO270.out).2.2 | (with_reducible refine Kd.C_alloc ?_ _) | (with_reducible refine Kd.C_drewN ?_ _) | (with_reducible refine Kd.C_drew ?_))); (case side2 => exact (Kd.R_reads' HO270.out).2.1); (case side3 => repeat (first | exact (Kd.R_reads' HO288.out).2.2 | (with_reducible refine Kd.C_alloc ?_ _) | (with_reducible refine Kd.C_drewN ?_ _) | (with_reducible refine Kd.C_drew ?_))); (case side4 => exact (Kd.R_reads' HO288.out).2.1); rintro e w' ⟨rfl, ⟨nd, rfl⟩⟩))
                     go_ret
                     exact ⟨by first | rfl | (simp [errW_none, errW_some] <;> rfl) | (simp [*, errW_none, errW_some] <;> rfl), hU HB.out⟩
                    ·replace c44 := Bool.eq_false_iff.mpr c44
                     subst c44
                     have H1 : (none) = some r := by rw [if_neg (show ¬ (false = true) by decide)] at H; exact H
                     clear H
                     have H := H1
                     clear H1
                     exact absurd H (by simp)
                   ·replace c42 := Bool.eq_false_iff.mpr c42
                    subst c42
                    have H1 : (none) = some r := by rw [if_neg (show ¬ (false = true) by decide)] at H; exact H
                    clear H
                    have H := H1
                    clear H1
                    exact absurd H (by simp)
                  ·rw [if_neg c39] at H
                   exact absurd H (by simp)
                 ·rw [if_neg c38] at H
                  exact absurd H (by simp)
                ·rw [if_neg c37] at H
                 exact absurd H (by simp)
               ·rw [if_neg c36] at H
                exact absurd H (by simp)
              ·rw [if_neg c30] at H
               exact absurd H (by simp)
             ·rw [if_neg c29] at H
              exact absurd H (by simp)
            ·rw [if_neg c28] at H
             exact absurd H (by simp)
           ·rw [if_neg c27] at H
            exact absurd H (by simp)
          ·rw [if_neg c26] at H
           exact absurd H (by simp)
         ·replace c22 := Bool.eq_false_iff.mpr c22
          subst c22
          have H1 : (none) = some r := by rw [if_neg (show ¬ (false = true) by decide)] at H; exact H
          clear H
          have H := H1
          clear H1
          exact absurd H (by simp)
        ·replace c20 := Bool.eq_false_iff.mpr c20
         subst c20
         have H1 : (none) = some r := by rw [if_neg (show ¬ (false = true) by decide)] at H; exact H
         clear H
         have H := H1
         clear H1
         exact absurd H (by simp)
       ·rw [if_neg c18] at H
        exact absurd H (by simp)
      ·rw [if_neg c17] at H
       exact absurd H (by simp)
     ·rw [if_neg c16] at H
      exact absurd H (by simp)
    ·rw [if_neg c12] at H
     exact absurd H (by simp)
   ·rw [if_neg c9] at H
    exact absurd H (by simp)
  ·rw [if_neg c7] at H
   exact absurd H (by simp)
 ·rw [if_neg c5] at H
  exact absurd H (by simp)

end Go.Proofs.Ytdilndbanhianaa.P
end
section
set_option linter.unusedVariables false
set_option linter.unusedSimpArgs false
namespace Go.Proofs.Ytdilndbanhianaa.P
open Go.RowKit Go.Proofs.YtdilndbanhianaaW.PrintWords Go.Proofs.YtdilndbanhianaaW.PrintLast Go.Proofs.YtdilndbanhianaaW.PrintMore
theorem awake24_60 : dancestudiolaw24_awake.f 60 = some true := by decide +kernel
theorem aw24 : Ev (fun k => dancestudiolaw24_awake.f k) true := Ev.of (fun k => dancestudiolaw24_awake.mono k) awake24_60
theorem awt24 : Ev (fun k => (dancestudiolaw24_awake.f k).bind fun t => some t) true := Ev.bind aw24 (Ev.now _)
theorem light24 (l : List S29) : dancestudiolaw24_light.f l = some (decide (l.length ≤ 60 ∨ 256 < l.length ∧ l.length ≤ 300)) := by
  unfold dancestudiolaw24_light.f
  by_cases h1 : l.length ≤ 60
  · rw [if_pos (by omega)]; simp [h1]
  · rw [if_neg (by omega)]
    by_cases h2 : 256 < l.length
    · rw [if_pos (by omega)]; simp [h1, h2]; omega
    · rw [if_neg (by omega)]; simp [h1, h2]
end Go.Proofs.Ytdilndbanhianaa.P
end

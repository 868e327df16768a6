/- Texts of this claim in one: VP65; no condition. -/
import Derived.Test.YteopkkoblbmggaaQAC
import Derived.Test.YteopkkoblbmggaaQAE
import Derived.Test.YteopkkoblbmggaaQAI
import Derived.Test.YteopkkoblbmggaaQAK
import Derived.Test.YteopkkoblbmggaaQAP
section
namespace Go.Proofs.Yteopkkoblbmggaa.P
open Go.RowKit Go.Proofs.YteopkkoblbmggaaW.PrintWords Go.Proofs.YteopkkoblbmggaaW.PrintLast Go.Proofs.YteopkkoblbmggaaW.PrintMore
attribute [local go_sem] Y11 Y13 Y19 Y1a YR YS Y12 Y14
set_option linter.unusedVariables false
set_option linter.unusedSimpArgs false
def Yv.f (k : Nat)  : Option (Bool) := (YA.f 1 24).bind fun b_6 => ((YD.f k ([] : List Int) b_6.1 b_6.2.1 b_6.2.2.1 b_6.2.2.2.1 b_6.2.2.2.2.1 b_6.2.2.2.2.2.1 b_6.2.2.2.2.2.2.1 b_6.2.2.2.2.2.2.2.1 b_6.2.2.2.2.2.2.2.2.1 b_6.2.2.2.2.2.2.2.2.2.1 b_6.2.2.2.2.2.2.2.2.2.2.1 b_6.2.2.2.2.2.2.2.2.2.2.2.1 b_6.2.2.2.2.2.2.2.2.2.2.2.2).bind fun b_b => ((YE.f).bind fun b_4 => ((YD.f k b_b.1 b_4.1 b_4.2.1 b_4.2.2.1 b_4.2.2.2.1 b_4.2.2.2.2.1 b_4.2.2.2.2.2.1 b_4.2.2.2.2.2.2.1 b_4.2.2.2.2.2.2.2.1 b_4.2.2.2.2.2.2.2.2.1 b_4.2.2.2.2.2.2.2.2.2.1 b_4.2.2.2.2.2.2.2.2.2.2.1 b_4.2.2.2.2.2.2.2.2.2.2.2.1 b_4.2.2.2.2.2.2.2.2.2.2.2.2).bind fun b_3 => ((YA.f 1 24).bind fun b_7 => ((YE.f).bind fun b_5 => ((some (([(⟨(⟨b_7.1, b_7.2.1⟩ : S26), b_7.2.2.1, (⟨b_7.2.2.2.1, b_7.2.2.2.2.1⟩ : S26), b_7.2.2.2.2.2.1, (⟨b_7.2.2.2.2.2.2.1, b_7.2.2.2.2.2.2.2.1, b_7.2.2.2.2.2.2.2.2.1, b_7.2.2.2.2.2.2.2.2.2.1, b_7.2.2.2.2.2.2.2.2.2.2.1, b_7.2.2.2.2.2.2.2.2.2.2.2.1, b_7.2.2.2.2.2.2.2.2.2.2.2.2⟩ : S28)⟩ : S30), (⟨(⟨b_5.1, b_5.2.1⟩ : S26), b_5.2.2.1, (⟨b_5.2.2.2.1, b_5.2.2.2.2.1⟩ : S26), b_5.2.2.2.2.2.1, (⟨b_5.2.2.2.2.2.2.1, b_5.2.2.2.2.2.2.2.1, b_5.2.2.2.2.2.2.2.2.1, b_5.2.2.2.2.2.2.2.2.2.1, b_5.2.2.2.2.2.2.2.2.2.2.1, b_5.2.2.2.2.2.2.2.2.2.2.2.1, b_5.2.2.2.2.2.2.2.2.2.2.2.2⟩ : S28)⟩ : S30)] : List (S30)) : List (S30))).bind fun y1167 => ((Y1s.f k 2 y1167).bind fun b_f => (if b_b.2 = 0 then (if b_3.2 = 0 then (if b_f.2 = 0 then (if (b_b.1.length : Int) = 0 then (none) else (if (b_3.1.length : Int) ≤ (b_b.1.length : Int) then (none) else ((YG.f b_f.1 b_3.1).bind fun t_q => (if t_q = true then ((Yy.f k 2 b_3.1).bind fun b_e => (if 0 ≤ (wrap64 ((b_3.1.length : Int) - 1)) then (if (wrap64 ((b_3.1.length : Int) - 1)) ≤ (b_3.1.length : Int) then ((Yy.f k 2 (b_3.1.take ((wrap64 ((b_3.1.length : Int) - 1)) : Int).toNat)).bind fun b_8 => (if 0 ≤ (b_b.1.length : Int) then (if (b_b.1.length : Int) ≤ (b_3.1.length : Int) then ((Yy.f k 2 (b_3.1.drop ((b_b.1.length : Int) : Int).toNat)).bind fun b_a => (if b_e.2.2.2 = 0 then (if b_8.2.2.2 = 0 then (if b_a.2.2.2 = 0 then ((Yu.f k b_e.1 b_e.2.1 2 y1167).bind fun t_b => (if t_b = true then (if b_e.2.2.1 = (b_3.1.length : Int) then (if 1 ≤ (y1167.length : Int) then ((Yu.f k b_8.1 b_8.2.1 2 (y1167.take 1)).bind fun t_a => (if t_a = true then (if b_8.2.2.1 = (b_b.1.length : Int) then (if (b_a.2.1.length : Int) = 0 then (if b_a.2.2.1 = 0 then ((YA.f 1 24).bind fun b_1 => ((YA.f 2 12).bind fun b_0 => ((YE.f).bind fun b_2 => ((YX.f k 2 (([(⟨(⟨b_1.1, b_1.2.1⟩ : S26), b_1.2.2.1, (⟨b_1.2.2.2.1, b_1.2.2.2.2.1⟩ : S26), b_1.2.2.2.2.2.1, (⟨b_1.2.2.2.2.2.2.1, b_1.2.2.2.2.2.2.2.1, b_1.2.2.2.2.2.2.2.2.1, b_1.2.2.2.2.2.2.2.2.2.1, b_1.2.2.2.2.2.2.2.2.2.2.1, b_1.2.2.2.2.2.2.2.2.2.2.2.1, b_1.2.2.2.2.2.2.2.2.2.2.2.2⟩ : S28)⟩ : S30), (⟨(⟨b_0.1, b_0.2.1⟩ : S26), b_0.2.2.1, (⟨b_0.2.2.2.1, b_0.2.2.2.2.1⟩ : S26), b_0.2.2.2.2.2.1, (⟨b_0.2.2.2.2.2.2.1, b_0.2.2.2.2.2.2.2.1, b_0.2.2.2.2.2.2.2.2.1, b_0.2.2.2.2.2.2.2.2.2.1, b_0.2.2.2.2.2.2.2.2.2.2.1, b_0.2.2.2.2.2.2.2.2.2.2.2.1, b_0.2.2.2.2.2.2.2.2.2.2.2.2⟩ : S28)⟩ : S30), (⟨(⟨b_2.1, b_2.2.1⟩ : S26), b_2.2.2.1, (⟨b_2.2.2.2.1, b_2.2.2.2.2.1⟩ : S26), b_2.2.2.2.2.2.1, (⟨b_2.2.2.2.2.2.2.1, b_2.2.2.2.2.2.2.2.1, b_2.2.2.2.2.2.2.2.2.1, b_2.2.2.2.2.2.2.2.2.2.1, b_2.2.2.2.2.2.2.2.2.2.2.1, b_2.2.2.2.2.2.2.2.2.2.2.2.1, b_2.2.2.2.2.2.2.2.2.2.2.2.2⟩ : S28)⟩ : S30)] : List (S30)))).bind fun b_9 => ((Yy.f k 0 ([] : List Int)).bind fun b_d => ((YD.f k ([] : List Int) 0 0 0 0 0 false 0 0 0 0 0 0 0).bind fun b_c => (if b_9.2 = 0 then ((YG.f b_9.1 b_3.1).bind fun t_6 => (if t_6 = true then (if b_d.2.2.2 = 43 then (some (b_c.2 == 43)) else (none)) else (none))) else (none)))))))) else (none)) else (none)) else (none)) else (none))) else (none)) else (none)) else (none))) else (none)) else (none)) else (none))) else (none)) else (none))) else (none)) else (none))) else (none))))) else (none)) else (none)) else (none)))))))))
theorem Yv.mono : ∀ k, LeO (Yv.f k ) (Yv.f (k + 1) ) := by
 intro  k
 unfold Yv.f
 repeat' first
   | (with_reducible exact Yu.mono _ _ _ _ _)
   | (with_reducible exact YD.mono _ _ _ _ _ _ _ _ _ _ _ _ _ _ _)
   | (with_reducible exact YX.mono _ _ _)
   | (with_reducible exact Yy.mono _ _ _)
   | (with_reducible exact Y1s.mono _ _ _)
   | (with_reducible exact LeO.refl _)
   | (with_reducible exact LeO.none _)
   | (with_reducible refine LeO.ite ?_ ?_)
   | (with_reducible refine LeO.bind ?_ (fun _ => ?_))
def Yv.T10 : Bool × List (List Nat × List Nat) := (true, [([], []), ([0], [0]), ([1], [1]), ([2], [2]), ([3, 2], [2, 3]), ([2, 4], [2, 4]), ([5, 2], [5]), ([6], [6]), ([7, 6], [6, 7]), ([6, 8], [6, 8]), ([9, 6], [9]), ([10], [10]), ([10], [10]), ([11, 12, 10, 10], [10, 11, 12]), ([13, 10], [10, 13]), ([10, 14], [10, 14]), ([15, 13], [15]), ([16], [16]), ([16], [16]), ([18, 16], [16, 18]), ([17, 19, 16], [16, 17, 19]), ([16, 20], [16, 20]), ([21, 16], [21]), ([22], [22]), ([22], [22]), ([24, 22], [22, 24]), ([25, 22], [22, 25]), ([26, 22], [22, 26]), ([23, 27, 22, 22], [22, 23, 27]), ([28, 22], [22, 28]), ([22, 29], [22, 29]), ([30, 28], [30]), ([31], [31]), ([31], [31]), ([33, 31], [31, 33]), ([32, 34, 31], [31, 32, 34]), ([31, 35], [31, 35]), ([36, 31], [36]), ([37], [37]), ([38, 37], [37, 38]), ([39, 37], [37, 39]), ([40, 37], [37, 40]), ([37, 41], [37, 41]), ([42, 37], [42]), ([43], [43]), ([44, 43], [43, 44]), ([43, 45], [43, 45])])
def Yv.B10 : List Nat := [0, 1, 3, 7, 15, 31, 63, 127, 255, 511, 1023, 2047, 2047, 8191, 16383, 32767, 65535, 131071, 131071, 393215, 1048575, 2097151, 4194303, 8388607, 8388607, 25165823, 58720255, 125829119, 268435455, 536870911, 1073741823, 2147483647, 4294967295, 4294967295, 12884901887, 34359738367, 68719476735, 137438953471, 274877906943, 549755813887, 1099511627775, 2199023255551, 4398046511103, 8796093022207, 17592186044415, 35184372088831, 70368744177663]
theorem Yv.tab10 : rtab .any (opsOf Try.f37 10) = Yv.T10 := by kernel_rfl
theorem Yv.bits10 : Y22 Yv.T10.2 Yv.B10 = true := by kernel_rfl
set_option maxHeartbeats 8000000 in
set_option maxRecDepth 100000 in
theorem Yv.calls (k : Nat)  (r : Bool) (w : World) (h : Yv.f k  = some r) :
  Calls Try.prog 37 #[] w fun e w' => e = .returned (.bool r) ∧ Below w.heap.size w w' := by
 have hu24 := Try.underlying24
 have hu30 := Try.underlying30
 have HB := Y0.mk (Below.refl w.heap.size w)
 have H : ((YA.f 1 24).bind fun b_6 => ((YD.f k ([] : List Int) b_6.1 b_6.2.1 b_6.2.2.1 b_6.2.2.2.1 b_6.2.2.2.2.1 b_6.2.2.2.2.2.1 b_6.2.2.2.2.2.2.1 b_6.2.2.2.2.2.2.2.1 b_6.2.2.2.2.2.2.2.2.1 b_6.2.2.2.2.2.2.2.2.2.1 b_6.2.2.2.2.2.2.2.2.2.2.1 b_6.2.2.2.2.2.2.2.2.2.2.2.1 b_6.2.2.2.2.2.2.2.2.2.2.2.2).bind fun b_b => ((YE.f).bind fun b_4 => ((YD.f k b_b.1 b_4.1 b_4.2.1 b_4.2.2.1 b_4.2.2.2.1 b_4.2.2.2.2.1 b_4.2.2.2.2.2.1 b_4.2.2.2.2.2.2.1 b_4.2.2.2.2.2.2.2.1 b_4.2.2.2.2.2.2.2.2.1 b_4.2.2.2.2.2.2.2.2.2.1 b_4.2.2.2.2.2.2.2.2.2.2.1 b_4.2.2.2.2.2.2.2.2.2.2.2.1 b_4.2.2.2.2.2.2.2.2.2.2.2.2).bind fun b_3 => ((YA.f 1 24).bind fun b_7 => ((YE.f).bind fun b_5 => ((some (([(⟨(⟨b_7.1, b_7.2.1⟩ : S26), b_7.2.2.1, (⟨b_7.2.2.2.1, b_7.2.2.2.2.1⟩ : S26), b_7.2.2.2.2.2.1, (⟨b_7.2.2.2.2.2.2.1, b_7.2.2.2.2.2.2.2.1, b_7.2.2.2.2.2.2.2.2.1, b_7.2.2.2.2.2.2.2.2.2.1, b_7.2.2.2.2.2.2.2.2.2.2.1, b_7.2.2.2.2.2.2.2.2.2.2.2.1, b_7.2.2.2.2.2.2.2.2.2.2.2.2⟩ : S28)⟩ : S30), (⟨(⟨b_5.1, b_5.2.1⟩ : S26), b_5.2.2.1, (⟨b_5.2.2.2.1, b_5.2.2.2.2.1⟩ : S26), b_5.2.2.2.2.2.1, (⟨b_5.2.2.2.2.2.2.1, b_5.2.2.2.2.2.2.2.1, b_5.2.2.2.2.2.2.2.2.1, b_5.2.2.2.2.2.2.2.2.2.1, b_5.2.2.2.2.2.2.2.2.2.2.1, b_5.2.2.2.2.2.2.2.2.2.2.2.1, b_5.2.2.2.2.2.2.2.2.2.2.2.2⟩ : S28)⟩ : S30)] : List (S30)) : List (S30))).bind fun y1167 => ((Y1s.f k 2 y1167).bind fun b_f => (if b_b.2 = 0 then (if b_3.2 = 0 then (if b_f.2 = 0 then (if (b_b.1.length : Int) = 0 then (none) else (if (b_3.1.length : Int) ≤ (b_b.1.length : Int) then (none) else ((YG.f b_f.1 b_3.1).bind fun t_q => (if t_q = true then ((Yy.f k 2 b_3.1).bind fun b_e => (if 0 ≤ (wrap64 ((b_3.1.length : Int) - 1)) then (if (wrap64 ((b_3.1.length : Int) - 1)) ≤ (b_3.1.length : Int) then ((Yy.f k 2 (b_3.1.take ((wrap64 ((b_3.1.length : Int) - 1)) : Int).toNat)).bind fun b_8 => (if 0 ≤ (b_b.1.length : Int) then (if (b_b.1.length : Int) ≤ (b_3.1.length : Int) then ((Yy.f k 2 (b_3.1.drop ((b_b.1.length : Int) : Int).toNat)).bind fun b_a => (if b_e.2.2.2 = 0 then (if b_8.2.2.2 = 0 then (if b_a.2.2.2 = 0 then ((Yu.f k b_e.1 b_e.2.1 2 y1167).bind fun t_b => (if t_b = true then (if b_e.2.2.1 = (b_3.1.length : Int) then (if 1 ≤ (y1167.length : Int) then ((Yu.f k b_8.1 b_8.2.1 2 (y1167.take 1)).bind fun t_a => (if t_a = true then (if b_8.2.2.1 = (b_b.1.length : Int) then (if (b_a.2.1.length : Int) = 0 then (if b_a.2.2.1 = 0 then ((YA.f 1 24).bind fun b_1 => ((YA.f 2 12).bind fun b_0 => ((YE.f).bind fun b_2 => ((YX.f k 2 (([(⟨(⟨b_1.1, b_1.2.1⟩ : S26), b_1.2.2.1, (⟨b_1.2.2.2.1, b_1.2.2.2.2.1⟩ : S26), b_1.2.2.2.2.2.1, (⟨b_1.2.2.2.2.2.2.1, b_1.2.2.2.2.2.2.2.1, b_1.2.2.2.2.2.2.2.2.1, b_1.2.2.2.2.2.2.2.2.2.1, b_1.2.2.2.2.2.2.2.2.2.2.1, b_1.2.2.2.2.2.2.2.2.2.2.2.1, b_1.2.2.2.2.2.2.2.2.2.2.2.2⟩ : S28)⟩ : S30), (⟨(⟨b_0.1, b_0.2.1⟩ : S26), b_0.2.2.1, (⟨b_0.2.2.2.1, b_0.2.2.2.2.1⟩ : S26), b_0.2.2.2.2.2.1, (⟨b_0.2.2.2.2.2.2.1, b_0.2.2.2.2.2.2.2.1, b_0.2.2.2.2.2.2.2.2.1, b_0.2.2.2.2.2.2.2.2.2.1, b_0.2.2.2.2.2.2.2.2.2.2.1, b_0.2.2.2.2.2.2.2.2.2.2.2.1, b_0.2.2.2.2.2.2.2.2.2.2.2.2⟩ : S28)⟩ : S30), (⟨(⟨b_2.1, b_2.2.1⟩ : S26), b_2.2.2.1, (⟨b_2.2.2.2.1, b_2.2.2.2.2.1⟩ : S26), b_2.2.2.2.2.2.1, (⟨b_2.2.2.2.2.2.2.1, b_2.2.2.2.2.2.2.2.1, b_2.2.2.2.2.2.2.2.2.1, b_2.2.2.2.2.2.2.2.2.2.1, b_2.2.2.2.2.2.2.2.2.2.2.1, b_2.2.2.2.2.2.2.2.2.2.2.2.1, b_2.2.2.2.2.2.2.2.2.2.2.2.2⟩ : S28)⟩ : S30)] : List (S30)))).bind fun b_9 => ((Yy.f k 0 ([] : List Int)).bind fun b_d => ((YD.f k ([] : List Int) 0 0 0 0 0 false 0 0 0 0 0 0 0).bind fun b_c => (if b_9.2 = 0 then ((YG.f b_9.1 b_3.1).bind fun t_6 => (if t_6 = true then (if b_d.2.2.2 = 43 then (some (b_c.2 == 43)) else (none)) else (none))) else (none)))))))) else (none)) else (none)) else (none)) else (none))) else (none)) else (none)) else (none))) else (none)) else (none)) else (none))) else (none)) else (none))) else (none)) else (none))) else (none))))) else (none)) else (none)) else (none)))))))))) = some r := h
 clear h
 obtain ⟨⟨t_2j, t_2a, t_2z, t_2y, t_2u, t_2i, t_28, t_2w, t_2e, t_29, t_2m, t_2p, t_2c⟩, A10, H⟩ := bS H
 try dsimp only at H
 have A1 := Y0.mk A10
 clear A10
 obtain ⟨⟨t_1, t_2l⟩, A20, H⟩ := bS H
 try dsimp only at H
 have A2 := Y0.mk A20
 clear A20
 obtain ⟨⟨t_2x, t_2v, t_2n, t_30, t_2d, t_2g, t_2b, t_2h, t_2k, t_2t, t_2s, t_2f, t_2r⟩, A30, H⟩ := bS H
 try dsimp only at H
 have A3 := Y0.mk A30
 clear A30
 obtain ⟨⟨t_0, t_35⟩, A40, H⟩ := bS H
 try dsimp only at H
 have A4 := Y0.mk A40
 clear A40
 obtain ⟨⟨t_1q, t_c, t_d, t_1r, t_x, t_m, t_1v, t_16, t_1w, t_1k, t_1h, t_1n, t_1a⟩, A50, H⟩ := bS H
 try dsimp only at H
 have A5 := Y0.mk A50
 clear A50
 obtain ⟨⟨t_j, t_1c, t_1e, t_1g, t_12, t_1t, t_1o, t_13, t_23, t_o, t_1s, t_1i, t_g⟩, A60, H⟩ := bS H
 try dsimp only at H
 have A6 := Y0.mk A60
 clear A60
 obtain ⟨y1167, hy1167⟩ : ∃ y_ : List (S30), y_ = (([(⟨(⟨t_1q, t_c⟩ : S26), t_d, (⟨t_1r, t_x⟩ : S26), t_m, (⟨t_1v, t_16, t_1w, t_1k, t_1h, t_1n, t_1a⟩ : S28)⟩ : S30), (⟨(⟨t_j, t_1c⟩ : S26), t_1e, (⟨t_1g, t_12⟩ : S26), t_1t, (⟨t_1o, t_13, t_23, t_o, t_1s, t_1i, t_g⟩ : S28)⟩ : S30)] : List (S30))) := ⟨_, rfl⟩
 replace H : ((Y1s.f k 2 y1167).bind fun b_f => (if t_2l = 0 then (if t_35 = 0 then (if b_f.2 = 0 then (if (t_1.length : Int) = 0 then (none) else (if (t_0.length : Int) ≤ (t_1.length : Int) then (none) else ((YG.f b_f.1 t_0).bind fun t_q => (if t_q = true then ((Yy.f k 2 t_0).bind fun b_e => (if 0 ≤ (wrap64 ((t_0.length : Int) - 1)) then (if (wrap64 ((t_0.length : Int) - 1)) ≤ (t_0.length : Int) then ((Yy.f k 2 (t_0.take ((wrap64 ((t_0.length : Int) - 1)) : Int).toNat)).bind fun b_8 => (if 0 ≤ (t_1.length : Int) then (if (t_1.length : Int) ≤ (t_0.length : Int) then ((Yy.f k 2 (t_0.drop ((t_1.length : Int) : Int).toNat)).bind fun b_a => (if b_e.2.2.2 = 0 then (if b_8.2.2.2 = 0 then (if b_a.2.2.2 = 0 then ((Yu.f k b_e.1 b_e.2.1 2 y1167).bind fun t_b => (if t_b = true then (if b_e.2.2.1 = (t_0.length : Int) then (if 1 ≤ (y1167.length : Int) then ((Yu.f k b_8.1 b_8.2.1 2 (y1167.take 1)).bind fun t_a => (if t_a = true then (if b_8.2.2.1 = (t_1.length : Int) then (if (b_a.2.1.length : Int) = 0 then (if b_a.2.2.1 = 0 then ((YA.f 1 24).bind fun b_1 => ((YA.f 2 12).bind fun b_0 => ((YE.f).bind fun b_2 => ((YX.f k 2 (([(⟨(⟨b_1.1, b_1.2.1⟩ : S26), b_1.2.2.1, (⟨b_1.2.2.2.1, b_1.2.2.2.2.1⟩ : S26), b_1.2.2.2.2.2.1, (⟨b_1.2.2.2.2.2.2.1, b_1.2.2.2.2.2.2.2.1, b_1.2.2.2.2.2.2.2.2.1, b_1.2.2.2.2.2.2.2.2.2.1, b_1.2.2.2.2.2.2.2.2.2.2.1, b_1.2.2.2.2.2.2.2.2.2.2.2.1, b_1.2.2.2.2.2.2.2.2.2.2.2.2⟩ : S28)⟩ : S30), (⟨(⟨b_0.1, b_0.2.1⟩ : S26), b_0.2.2.1, (⟨b_0.2.2.2.1, b_0.2.2.2.2.1⟩ : S26), b_0.2.2.2.2.2.1, (⟨b_0.2.2.2.2.2.2.1, b_0.2.2.2.2.2.2.2.1, b_0.2.2.2.2.2.2.2.2.1, b_0.2.2.2.2.2.2.2.2.2.1, b_0.2.2.2.2.2.2.2.2.2.2.1, b_0.2.2.2.2.2.2.2.2.2.2.2.1, b_0.2.2.2.2.2.2.2.2.2.2.2.2⟩ : S28)⟩ : S30), (⟨(⟨b_2.1, b_2.2.1⟩ : S26), b_2.2.2.1, (⟨b_2.2.2.2.1, b_2.2.2.2.2.1⟩ : S26), b_2.2.2.2.2.2.1, (⟨b_2.2.2.2.2.2.2.1, b_2.2.2.2.2.2.2.2.1, b_2.2.2.2.2.2.2.2.2.1, b_2.2.2.2.2.2.2.2.2.2.1, b_2.2.2.2.2.2.2.2.2.2.2.1, b_2.2.2.2.2.2.2.2.2.2.2.2.1, b_2.2.2.2.2.2.2.2.2.2.2.2.2⟩ : S28)⟩ : S30)] : List (S30)))).bind fun b_9 => ((Yy.f k 0 ([] : List Int)).bind fun b_d => ((YD.f k ([] : List Int) 0 0 0 0 0 false 0 0 0 0 0 0 0).bind fun b_c => (if b_9.2 = 0 then ((YG.f b_9.1 t_0).bind fun t_6 => (if t_6 = true then (if b_d.2.2.2 = 43 then (some (b_c.2 == 43)) else (none)) else (none))) else (none)))))))) else (none)) else (none)) else (none)) else (none))) else (none)) else (none)) else (none))) else (none)) else (none)) else (none))) else (none)) else (none))) else (none)) else (none))) else (none))))) else (none)) else (none)) else (none))) = some r := by first | (rw [hy1167]; with_reducible exact H) | (have H2_ := (Option.bind_some _ _).symm.trans H; rw [hy1167]; with_reducible exact H2_) | (have H2_ := (Option.bind_some _ _).symm.trans H; with_reducible exact H2_) | with_reducible exact H | (rw [hy1167]; exact H) | exact H
 have Ny1167 := Y0.mk hy1167
 clear hy1167
 obtain ⟨⟨t_7, t_38⟩, A70, H⟩ := bS H
 try dsimp only at H
 have A7 := Y0.mk A70
 clear A70
 by_cases c8 : t_2l = 0
 rotate_left
 ·rw [if_neg c8] at H
  exact absurd H (by simp)
 rw [if_pos c8] at H
 have c8b0 := bqT c8
 have c8b1 := bnF c8
 clear c8
 obtain ⟨c9, H⟩ := iS H
 have c9b0 := bqT c9
 have c9b1 := bnF c9
 clear c9
 obtain ⟨c10, H⟩ := iS H
 have c10b0 := bqT c10
 have c10b1 := bnF c10
 clear c10
 by_cases c11 : (t_1.length : Int) = 0
 ·rw [if_pos c11] at H
  exact absurd H (by simp)
 rw [if_neg c11] at H
 have c11b0 := bqF c11
 have c11b1 := bnT c11
 have c11b2 : ¬ (t_1 = []) := fun h_ => c11 (by rw [h_]; rfl)
 by_cases c12 : (t_0.length : Int) ≤ (t_1.length : Int)
 ·rw [if_pos c12] at H
  exact absurd H (by simp)
 rw [if_neg c12] at H
 have c12b0 := decide_eq_false c12
 have c12b1 : decide (t_0.length ≤ t_1.length) = false := decide_eq_false (fun h => c12 (Int.ofNat_le.mpr h))
 clear c12
 obtain ⟨t_q, A130, H⟩ := bS H
 try dsimp only at H
 have A13 := Y0.mk A130
 clear A130
 by_cases c14 : t_q = true
 rotate_left
 ·replace c14 := Bool.eq_false_iff.mpr c14
  subst c14
  have H1 : (none) = some r := by rw [if_neg (show ¬ (false = true) by decide)] at H; exact H
  clear H
  have H := H1
  clear H1
  exact absurd H (by simp)
 subst c14
 rw [if_pos rfl] at H
 obtain ⟨⟨t_8, t_3, t_27, t_26⟩, A150, H⟩ := bS H
 try dsimp only at H
 have A15 := Y0.mk A150
 clear A150
 obtain ⟨ji16, hji16⟩ : ∃ j_ : Int, (wrap64 ((t_0.length : Int) - 1)) = j_ := ⟨_, rfl⟩
 replace H : (if 0 ≤ (ji16) then (if (ji16) ≤ (t_0.length : Int) then ((Yy.f k 2 (t_0.take ((ji16) : Int).toNat)).bind fun b_8 => (if 0 ≤ (t_1.length : Int) then (if (t_1.length : Int) ≤ (t_0.length : Int) then ((Yy.f k 2 (t_0.drop ((t_1.length : Int) : Int).toNat)).bind fun b_a => (if t_26 = 0 then (if b_8.2.2.2 = 0 then (if b_a.2.2.2 = 0 then ((Yu.f k t_8 t_3 2 y1167).bind fun t_b => (if t_b = true then (if t_27 = (t_0.length : Int) then (if 1 ≤ (y1167.length : Int) then ((Yu.f k b_8.1 b_8.2.1 2 (y1167.take 1)).bind fun t_a => (if t_a = true then (if b_8.2.2.1 = (t_1.length : Int) then (if (b_a.2.1.length : Int) = 0 then (if b_a.2.2.1 = 0 then ((YA.f 1 24).bind fun b_1 => ((YA.f 2 12).bind fun b_0 => ((YE.f).bind fun b_2 => ((YX.f k 2 (([(⟨(⟨b_1.1, b_1.2.1⟩ : S26), b_1.2.2.1, (⟨b_1.2.2.2.1, b_1.2.2.2.2.1⟩ : S26), b_1.2.2.2.2.2.1, (⟨b_1.2.2.2.2.2.2.1, b_1.2.2.2.2.2.2.2.1, b_1.2.2.2.2.2.2.2.2.1, b_1.2.2.2.2.2.2.2.2.2.1, b_1.2.2.2.2.2.2.2.2.2.2.1, b_1.2.2.2.2.2.2.2.2.2.2.2.1, b_1.2.2.2.2.2.2.2.2.2.2.2.2⟩ : S28)⟩ : S30), (⟨(⟨b_0.1, b_0.2.1⟩ : S26), b_0.2.2.1, (⟨b_0.2.2.2.1, b_0.2.2.2.2.1⟩ : S26), b_0.2.2.2.2.2.1, (⟨b_0.2.2.2.2.2.2.1, b_0.2.2.2.2.2.2.2.1, b_0.2.2.2.2.2.2.2.2.1, b_0.2.2.2.2.2.2.2.2.2.1, b_0.2.2.2.2.2.2.2.2.2.2.1, b_0.2.2.2.2.2.2.2.2.2.2.2.1, b_0.2.2.2.2.2.2.2.2.2.2.2.2⟩ : S28)⟩ : S30), (⟨(⟨b_2.1, b_2.2.1⟩ : S26), b_2.2.2.1, (⟨b_2.2.2.2.1, b_2.2.2.2.2.1⟩ : S26), b_2.2.2.2.2.2.1, (⟨b_2.2.2.2.2.2.2.1, b_2.2.2.2.2.2.2.2.1, b_2.2.2.2.2.2.2.2.2.1, b_2.2.2.2.2.2.2.2.2.2.1, b_2.2.2.2.2.2.2.2.2.2.2.1, b_2.2.2.2.2.2.2.2.2.2.2.2.1, b_2.2.2.2.2.2.2.2.2.2.2.2.2⟩ : S28)⟩ : S30)] : List (S30)))).bind fun b_9 => ((Yy.f k 0 ([] : List Int)).bind fun b_d => ((YD.f k ([] : List Int) 0 0 0 0 0 false 0 0 0 0 0 0 0).bind fun b_c => (if b_9.2 = 0 then ((YG.f b_9.1 t_0).bind fun t_6 => (if t_6 = true then (if b_d.2.2.2 = 43 then (some (b_c.2 == 43)) else (none)) else (none))) else (none)))))))) else (none)) else (none)) else (none)) else (none))) else (none)) else (none)) else (none))) else (none)) else (none)) else (none))) else (none)) else (none))) else (none)) else (none)) = some r := by first | (rw [hji16] at H; exact H) | (simp only [hji16] at H ⊢; exact H)
 (try rw [hji16] at A1)
 (try rw [hji16] at A2)
 (try rw [hji16] at A3)
 (try rw [hji16] at A4)
 (try rw [hji16] at A5)
 (try rw [hji16] at A6)
 (try rw [hji16] at A7)
 (try rw [hji16] at A13)
 (try rw [hji16] at A15)
 have hji16w : (IntKind.i64.wrap ((t_0.length : Int) - 1)) = ji16 := (i64_w _).trans hji16
 obtain ⟨c17, H⟩ := iS H
 have c17b0 := eq_true c17
 have c17b1 := decide_eq_true c17
 clear c17
 obtain ⟨c18, H⟩ := iS H
 have c18b0 := eq_true c18
 have c18b1 := decide_eq_true c18
 clear c18
 obtain ⟨y1183, hy1183⟩ : ∃ y_ : List Int, y_ = (t_0.take ((ji16) : Int).toNat) := ⟨_, rfl⟩
 replace H : ((Yy.f k 2 y1183).bind fun b_8 => (if 0 ≤ (t_1.length : Int) then (if (t_1.length : Int) ≤ (t_0.length : Int) then ((Yy.f k 2 (t_0.drop ((t_1.length : Int) : Int).toNat)).bind fun b_a => (if t_26 = 0 then (if b_8.2.2.2 = 0 then (if b_a.2.2.2 = 0 then ((Yu.f k t_8 t_3 2 y1167).bind fun t_b => (if t_b = true then (if t_27 = (t_0.length : Int) then (if 1 ≤ (y1167.length : Int) then ((Yu.f k b_8.1 b_8.2.1 2 (y1167.take 1)).bind fun t_a => (if t_a = true then (if b_8.2.2.1 = (t_1.length : Int) then (if (b_a.2.1.length : Int) = 0 then (if b_a.2.2.1 = 0 then ((YA.f 1 24).bind fun b_1 => ((YA.f 2 12).bind fun b_0 => ((YE.f).bind fun b_2 => ((YX.f k 2 (([(⟨(⟨b_1.1, b_1.2.1⟩ : S26), b_1.2.2.1, (⟨b_1.2.2.2.1, b_1.2.2.2.2.1⟩ : S26), b_1.2.2.2.2.2.1, (⟨b_1.2.2.2.2.2.2.1, b_1.2.2.2.2.2.2.2.1, b_1.2.2.2.2.2.2.2.2.1, b_1.2.2.2.2.2.2.2.2.2.1, b_1.2.2.2.2.2.2.2.2.2.2.1, b_1.2.2.2.2.2.2.2.2.2.2.2.1, b_1.2.2.2.2.2.2.2.2.2.2.2.2⟩ : S28)⟩ : S30), (⟨(⟨b_0.1, b_0.2.1⟩ : S26), b_0.2.2.1, (⟨b_0.2.2.2.1, b_0.2.2.2.2.1⟩ : S26), b_0.2.2.2.2.2.1, (⟨b_0.2.2.2.2.2.2.1, b_0.2.2.2.2.2.2.2.1, b_0.2.2.2.2.2.2.2.2.1, b_0.2.2.2.2.2.2.2.2.2.1, b_0.2.2.2.2.2.2.2.2.2.2.1, b_0.2.2.2.2.2.2.2.2.2.2.2.1, b_0.2.2.2.2.2.2.2.2.2.2.2.2⟩ : S28)⟩ : S30), (⟨(⟨b_2.1, b_2.2.1⟩ : S26), b_2.2.2.1, (⟨b_2.2.2.2.1, b_2.2.2.2.2.1⟩ : S26), b_2.2.2.2.2.2.1, (⟨b_2.2.2.2.2.2.2.1, b_2.2.2.2.2.2.2.2.1, b_2.2.2.2.2.2.2.2.2.1, b_2.2.2.2.2.2.2.2.2.2.1, b_2.2.2.2.2.2.2.2.2.2.2.1, b_2.2.2.2.2.2.2.2.2.2.2.2.1, b_2.2.2.2.2.2.2.2.2.2.2.2.2⟩ : S28)⟩ : S30)] : List (S30)))).bind fun b_9 => ((Yy.f k 0 ([] : List Int)).bind fun b_d => ((YD.f k ([] : List Int) 0 0 0 0 0 false 0 0 0 0 0 0 0).bind fun b_c => (if b_9.2 = 0 then ((YG.f b_9.1 t_0).bind fun t_6 => (if t_6 = true then (if b_d.2.2.2 = 43 then (some (b_c.2 == 43)) else (none)) else (none))) else (none)))))))) else (none)) else (none)) else (none)) else (none))) else (none)) else (none)) else (none))) else (none)) else (none)) else (none))) else (none)) else (none))) = some r := by first | (rw [hy1183]; with_reducible exact H) | (have H2_ := (Option.bind_some _ _).symm.trans H; rw [hy1183]; with_reducible exact H2_) | (have H2_ := (Option.bind_some _ _).symm.trans H; with_reducible exact H2_) | with_reducible exact H | (rw [hy1183]; exact H) | exact H
 have Ny1183 := Y0.mk hy1183
 clear hy1183
 obtain ⟨⟨t_9, t_5, t_2q, t_34⟩, A190, H⟩ := bS H
 try dsimp only at H
 have A19 := Y0.mk A190
 clear A190
 obtain ⟨c20, H⟩ := iS H
 have c20b0 := eq_true c20
 have c20b1 := decide_eq_true c20
 clear c20
 obtain ⟨c21, H⟩ := iS H
 have c21b0 := eq_true c21
 have c21b1 := decide_eq_true c21
 clear c21
 obtain ⟨y1194, hy1194⟩ : ∃ y_ : List Int, y_ = (t_0.drop ((t_1.length : Int) : Int).toNat) := ⟨_, rfl⟩
 replace H : ((Yy.f k 2 y1194).bind fun b_a => (if t_26 = 0 then (if t_34 = 0 then (if b_a.2.2.2 = 0 then ((Yu.f k t_8 t_3 2 y1167).bind fun t_b => (if t_b = true then (if t_27 = (t_0.length : Int) then (if 1 ≤ (y1167.length : Int) then ((Yu.f k t_9 t_5 2 (y1167.take 1)).bind fun t_a => (if t_a = true then (if t_2q = (t_1.length : Int) then (if (b_a.2.1.length : Int) = 0 then (if b_a.2.2.1 = 0 then ((YA.f 1 24).bind fun b_1 => ((YA.f 2 12).bind fun b_0 => ((YE.f).bind fun b_2 => ((YX.f k 2 (([(⟨(⟨b_1.1, b_1.2.1⟩ : S26), b_1.2.2.1, (⟨b_1.2.2.2.1, b_1.2.2.2.2.1⟩ : S26), b_1.2.2.2.2.2.1, (⟨b_1.2.2.2.2.2.2.1, b_1.2.2.2.2.2.2.2.1, b_1.2.2.2.2.2.2.2.2.1, b_1.2.2.2.2.2.2.2.2.2.1, b_1.2.2.2.2.2.2.2.2.2.2.1, b_1.2.2.2.2.2.2.2.2.2.2.2.1, b_1.2.2.2.2.2.2.2.2.2.2.2.2⟩ : S28)⟩ : S30), (⟨(⟨b_0.1, b_0.2.1⟩ : S26), b_0.2.2.1, (⟨b_0.2.2.2.1, b_0.2.2.2.2.1⟩ : S26), b_0.2.2.2.2.2.1, (⟨b_0.2.2.2.2.2.2.1, b_0.2.2.2.2.2.2.2.1, b_0.2.2.2.2.2.2.2.2.1, b_0.2.2.2.2.2.2.2.2.2.1, b_0.2.2.2.2.2.2.2.2.2.2.1, b_0.2.2.2.2.2.2.2.2.2.2.2.1, b_0.2.2.2.2.2.2.2.2.2.2.2.2⟩ : S28)⟩ : S30), (⟨(⟨b_2.1, b_2.2.1⟩ : S26), b_2.2.2.1, (⟨b_2.2.2.2.1, b_2.2.2.2.2.1⟩ : S26), b_2.2.2.2.2.2.1, (⟨b_2.2.2.2.2.2.2.1, b_2.2.2.2.2.2.2.2.1, b_2.2.2.2.2.2.2.2.2.1, b_2.2.2.2.2.2.2.2.2.2.1, b_2.2.2.2.2.2.2.2.2.2.2.1, b_2.2.2.2.2.2.2.2.2.2.2.2.1, b_2.2.2.2.2.2.2.2.2.2.2.2.2⟩ : S28)⟩ : S30)] : List (S30)))).bind fun b_9 => ((Yy.f k 0 ([] : List Int)).bind fun b_d => ((YD.f k ([] : List Int) 0 0 0 0 0 false 0 0 0 0 0 0 0).bind fun b_c => (if b_9.2 = 0 then ((YG.f b_9.1 t_0).bind fun t_6 => (if t_6 = true then (if b_d.2.2.2 = 43 then (some (b_c.2 == 43)) else (none)) else (none))) else (none)))))))) else (none)) else (none)) else (none)) else (none))) else (none)) else (none)) else (none))) else (none)) else (none)) else (none))) = some r := by first | (rw [hy1194]; with_reducible exact H) | (have H2_ := (Option.bind_some _ _).symm.trans H; rw [hy1194]; with_reducible exact H2_) | (have H2_ := (Option.bind_some _ _).symm.trans H; with_reducible exact H2_) | with_reducible exact H | (rw [hy1194]; exact H) | exact H
 have Ny1194 := Y0.mk hy1194
 clear hy1194
 obtain ⟨⟨t_4, t_2, t_32, t_3b⟩, A220, H⟩ := bS H
 try dsimp only at H
 have A22 := Y0.mk A220
 clear A220
 obtain ⟨c23, H⟩ := iS H
 have c23b0 := bqT c23
 have c23b1 := bnF c23
 clear c23
 obtain ⟨c24, H⟩ := iS H
 have c24b0 := bqT c24
 have c24b1 := bnF c24
 clear c24
 obtain ⟨c25, H⟩ := iS H
 have c25b0 := bqT c25
 have c25b1 := bnF c25
 clear c25
 obtain ⟨t_b, A260, H⟩ := bS H
 try dsimp only at H
 have A26 := Y0.mk A260
 clear A260
 by_cases c27 : t_b = true
 rotate_left
 ·replace c27 := Bool.eq_false_iff.mpr c27
  subst c27
  have H1 : (none) = some r := by rw [if_neg (show ¬ (false = true) by decide)] at H; exact H
  clear H
  have H := H1
  clear H1
  exact absurd H (by simp)
 subst c27
 rw [if_pos rfl] at H
 obtain ⟨c28, H⟩ := iS H
 have c28b0 := bqT c28
 have c28b1 := bnF c28
 clear c28
 obtain ⟨c29, H⟩ := iS H
 have c29b0 := eq_true c29
 have c29b1 := decide_eq_true c29
 clear c29
 obtain ⟨y1206, hy1206⟩ : ∃ y_ : List (S30), y_ = (y1167.take 1) := ⟨_, rfl⟩
 replace H : ((Yu.f k t_9 t_5 2 y1206).bind fun t_a => (if t_a = true then (if t_2q = (t_1.length : Int) then (if (t_2.length : Int) = 0 then (if t_32 = 0 then ((YA.f 1 24).bind fun b_1 => ((YA.f 2 12).bind fun b_0 => ((YE.f).bind fun b_2 => ((YX.f k 2 (([(⟨(⟨b_1.1, b_1.2.1⟩ : S26), b_1.2.2.1, (⟨b_1.2.2.2.1, b_1.2.2.2.2.1⟩ : S26), b_1.2.2.2.2.2.1, (⟨b_1.2.2.2.2.2.2.1, b_1.2.2.2.2.2.2.2.1, b_1.2.2.2.2.2.2.2.2.1, b_1.2.2.2.2.2.2.2.2.2.1, b_1.2.2.2.2.2.2.2.2.2.2.1, b_1.2.2.2.2.2.2.2.2.2.2.2.1, b_1.2.2.2.2.2.2.2.2.2.2.2.2⟩ : S28)⟩ : S30), (⟨(⟨b_0.1, b_0.2.1⟩ : S26), b_0.2.2.1, (⟨b_0.2.2.2.1, b_0.2.2.2.2.1⟩ : S26), b_0.2.2.2.2.2.1, (⟨b_0.2.2.2.2.2.2.1, b_0.2.2.2.2.2.2.2.1, b_0.2.2.2.2.2.2.2.2.1, b_0.2.2.2.2.2.2.2.2.2.1, b_0.2.2.2.2.2.2.2.2.2.2.1, b_0.2.2.2.2.2.2.2.2.2.2.2.1, b_0.2.2.2.2.2.2.2.2.2.2.2.2⟩ : S28)⟩ : S30), (⟨(⟨b_2.1, b_2.2.1⟩ : S26), b_2.2.2.1, (⟨b_2.2.2.2.1, b_2.2.2.2.2.1⟩ : S26), b_2.2.2.2.2.2.1, (⟨b_2.2.2.2.2.2.2.1, b_2.2.2.2.2.2.2.2.1, b_2.2.2.2.2.2.2.2.2.1, b_2.2.2.2.2.2.2.2.2.2.1, b_2.2.2.2.2.2.2.2.2.2.2.1, b_2.2.2.2.2.2.2.2.2.2.2.2.1, b_2.2.2.2.2.2.2.2.2.2.2.2.2⟩ : S28)⟩ : S30)] : List (S30)))).bind fun b_9 => ((Yy.f k 0 ([] : List Int)).bind fun b_d => ((YD.f k ([] : List Int) 0 0 0 0 0 false 0 0 0 0 0 0 0).bind fun b_c => (if b_9.2 = 0 then ((YG.f b_9.1 t_0).bind fun t_6 => (if t_6 = true then (if b_d.2.2.2 = 43 then (some (b_c.2 == 43)) else (none)) else (none))) else (none)))))))) else (none)) else (none)) else (none)) else (none))) = some r := by first | (rw [hy1206]; with_reducible exact H) | (have H2_ := (Option.bind_some _ _).symm.trans H; rw [hy1206]; with_reducible exact H2_) | (have H2_ := (Option.bind_some _ _).symm.trans H; with_reducible exact H2_) | with_reducible exact H | (rw [hy1206]; exact H) | exact H
 have Ny1206 := Y0.mk hy1206
 clear hy1206
 obtain ⟨t_a, A300, H⟩ := bS H
 try dsimp only at H
 have A30 := Y0.mk A300
 clear A300
 by_cases c31 : t_a = true
 rotate_left
 ·replace c31 := Bool.eq_false_iff.mpr c31
  subst c31
  have H1 : (none) = some r := by rw [if_neg (show ¬ (false = true) by decide)] at H; exact H
  clear H
  have H := H1
  clear H1
  exact absurd H (by simp)
 subst c31
 rw [if_pos rfl] at H
 obtain ⟨c32, H⟩ := iS H
 have c32b0 := bqT c32
 have c32b1 := bnF c32
 clear c32
 obtain ⟨c33, H⟩ := iS H
 have c33b0 := bqT c33
 have c33b1 := bnF c33
 clear c33
 obtain ⟨c34, H⟩ := iS H
 have c34b0 := bqT c34
 have c34b1 := bnF c34
 clear c34
 obtain ⟨⟨t_1y, t_14, t_v, t_l, t_u, t_1m, t_p, t_1b, t_w, t_1u, t_24, t_15, t_25⟩, A350, H⟩ := bS H
 try dsimp only at H
 have A35 := Y0.mk A350
 clear A350
 obtain ⟨⟨t_e, t_10, t_1z, t_22, t_h, t_11, t_1j, t_y, t_f, t_18, t_r, t_1f, t_20⟩, A360, H⟩ := bS H
 try dsimp only at H
 have A36 := Y0.mk A360
 clear A360
 obtain ⟨⟨t_21, t_t, t_19, t_s, t_17, t_i, t_1d, t_1l, t_1x, t_1p, t_z, t_k, t_n⟩, A370, H⟩ := bS H
 try dsimp only at H
 have A37 := Y0.mk A370
 clear A370
 obtain ⟨y1250, hy1250⟩ : ∃ y_ : List (S30), y_ = (([(⟨(⟨t_1y, t_14⟩ : S26), t_v, (⟨t_l, t_u⟩ : S26), t_1m, (⟨t_p, t_1b, t_w, t_1u, t_24, t_15, t_25⟩ : S28)⟩ : S30), (⟨(⟨t_e, t_10⟩ : S26), t_1z, (⟨t_22, t_h⟩ : S26), t_11, (⟨t_1j, t_y, t_f, t_18, t_r, t_1f, t_20⟩ : S28)⟩ : S30), (⟨(⟨t_21, t_t⟩ : S26), t_19, (⟨t_s, t_17⟩ : S26), t_i, (⟨t_1d, t_1l, t_1x, t_1p, t_z, t_k, t_n⟩ : S28)⟩ : S30)] : List (S30))) := ⟨_, rfl⟩
 replace H : ((YX.f k 2 y1250).bind fun b_9 => ((Yy.f k 0 ([] : List Int)).bind fun b_d => ((YD.f k ([] : List Int) 0 0 0 0 0 false 0 0 0 0 0 0 0).bind fun b_c => (if b_9.2 = 0 then ((YG.f b_9.1 t_0).bind fun t_6 => (if t_6 = true then (if b_d.2.2.2 = 43 then (some (b_c.2 == 43)) else (none)) else (none))) else (none))))) = some r := by first | (rw [hy1250]; with_reducible exact H) | (have H2_ := (Option.bind_some _ _).symm.trans H; rw [hy1250]; with_reducible exact H2_) | (have H2_ := (Option.bind_some _ _).symm.trans H; with_reducible exact H2_) | with_reducible exact H | (rw [hy1250]; exact H) | exact H
 have Ny1250 := Y0.mk hy1250
 clear hy1250
 obtain ⟨⟨t_33, t_3c⟩, A380, H⟩ := bS H
 try dsimp only at H
 have A38 := Y0.mk A380
 clear A380
 obtain ⟨⟨t_37, t_36, t_3a, t_2o⟩, A390, H⟩ := bS H
 try dsimp only at H
 have A39 := Y0.mk A390
 clear A390
 obtain ⟨⟨t_39, t_31⟩, A400, H⟩ := bS H
 try dsimp only at H
 have A40 := Y0.mk A400
 clear A400
 obtain ⟨c41, H⟩ := iS H
 have c41b0 := bqT c41
 have c41b1 := bnF c41
 clear c41
 obtain ⟨t_6, A420, H⟩ := bS H
 replace H : (if t_6 = true then (if t_2o = 43 then (some (t_31 == 43)) else (none)) else (none)) = some r := H
 have A42 := Y0.mk A420
 clear A420
 by_cases c43 : t_6 = true
 rotate_left
 ·replace c43 := Bool.eq_false_iff.mpr c43
  subst c43
  have H1 : (none) = some r := by rw [if_neg (show ¬ (false = true) by decide)] at H; exact H
  clear H
  have H := H1
  clear H1
  exact absurd H (by simp)
 subst c43
 have H1 : (if t_2o = 43 then (some (t_31 == 43)) else (none)) = some r := by rw [if_pos rfl] at H; exact H
 clear H
 have H := H1
 clear H1
 obtain ⟨c44, H⟩ := iS H
 have c44b0 := bqT c44
 have c44b1 := bnF c44
 clear c44
 obtain rfl := Option.some.inj H
 go_enter Try.func37, Try.ntmps37
 try go_wp2_with (first | ((with_reducible refine Y8 (f := 80) rfl ?_); refine goesA (some 16) Try.func80 #[.int .i64 1, .int .i64 24] ?_; (with_reducible refine (YA.calls 1 24 t_2j t_2a t_2z t_2y t_2u t_2i t_28 t_2w t_2e t_29 t_2m t_2p t_2c _ A1.out).mono ?_); rintro e w45 ⟨rfl, hb⟩; refine ⟨_, rfl, ?_⟩; replace HB := Y0.mk (Y4 (hU HB.out) hb); (try clear hb); (try clear hb2); (try clear hk); (try clear hi)) | ((with_reducible refine Y8 (f := 38) rfl ?_); refine goesA (some 17) Try.func38 #[.slice none 0 0, .agg #[.int .i64 t_2j, .int .i64 t_2a, .int .i64 t_2z, .int .i64 t_2y, .int .i64 t_2u, .bool t_2i, .int .i64 t_28, .int .i64 t_2w, .int .i64 t_2e, .int .i64 t_29, .int .i64 t_2m, .int .i64 t_2p, .int .i64 t_2c]] ?_; (refine (YD.calls k _ _ ([] : List Int) t_2j t_2a t_2z t_2y t_2u t_2i t_28 t_2w t_2e t_29 t_2m t_2p t_2c t_1 t_2l _ ?side1 ?side2 A2.out).mono ?_); (case side1 => exact Kd.C_nil _ _); (case side2 => exact Nat.le_refl _); rintro e w46 ⟨v_6, rfl, ho0, hb⟩; refine ⟨_, rfl, ?_⟩; replace O_1 := Y0.mk (Kd.R_lower ho0 (Yi (hU HB.out))); replace HB := Y0.mk (Y4 (hU HB.out) hb); (try clear hb); (try clear hb2); (try clear hk); (try clear hi); (try clear ho0)) | ((with_reducible refine Y8 (f := 81) rfl ?_); refine goesA (some 22) Try.func81 #[] ?_; (with_reducible refine (YE.calls  t_2x t_2v t_2n t_30 t_2d t_2g t_2b t_2h t_2k t_2t t_2s t_2f t_2r _ A3.out).mono ?_); rintro e w47 ⟨rfl, hb⟩; refine ⟨_, rfl, ?_⟩; replace O_1 := Y0.mk (Kd.R_below (Kd.rU O_1.out) hb); replace HB := Y0.mk (Y4 (hU HB.out) hb); (try clear hb); (try clear hb2); (try clear hk); (try clear hi); obtain ⟨Ao48, co48, eo48⟩ := Kd.R_slice O_1.out; subst eo48) | ((with_reducible refine Y8 (f := 38) rfl ?_); refine goesA (some 23) Try.func38 #[.slice Ao48 t_1.length co48, .agg #[.int .i64 t_2x, .int .i64 t_2v, .int .i64 t_2n, .int .i64 t_30, .int .i64 t_2d, .bool t_2g, .int .i64 t_2b, .int .i64 t_2h, .int .i64 t_2k, .int .i64 t_2t, .int .i64 t_2s, .int .i64 t_2f, .int .i64 t_2r]] ?_; (with_reducible refine (YD.calls k _ _ t_1 t_2x t_2v t_2n t_30 t_2d t_2g t_2b t_2h t_2k t_2t t_2s t_2f t_2r t_0 t_35 _ ?side1 ?side2 A4.out).mono ?_); (case side1 => repeat (first | exact (Kd.R_reads' O_1.out).2.2 | (with_reducible refine Kd.C_alloc ?_ _) | (with_reducible refine Kd.C_drewN ?_ _) | (with_reducible refine Kd.C_drew ?_))); (case side2 => exact (Kd.R_reads' O_1.out).2.1); rintro e w49 ⟨v_3, rfl, ho0, hb⟩; refine ⟨_, rfl, ?_⟩; replace O_0 := Y0.mk (Kd.R_lower (Kd.R_new' ho0 (Kd.R_lt (Kd.rU O_1.out))) (Yi (hU HB.out))); replace O_1 := Y0.mk (Kd.R_elder' (Kd.rU O_1.out) (Kd.R_base ho0) hb); replace HB := Y0.mk (Y4 (hU HB.out) hb); (try clear hb); (try clear hb2); (try clear hk); (try clear hi); (try clear ho0)) | ((with_reducible refine Y8 (f := 80) rfl ?_); refine goesA (some 26) Try.func80 #[.int .i64 1, .int .i64 24] ?_; (with_reducible refine (YA.calls 1 24 t_1q t_c t_d t_1r t_x t_m t_1v t_16 t_1w t_1k t_1h t_1n t_1a _ A5.out).mono ?_); rintro e w50 ⟨rfl, hb⟩; refine ⟨_, rfl, ?_⟩; replace O_1 := Y0.mk (Kd.R_below (Kd.rU O_1.out) hb); replace O_0 := Y0.mk (Kd.R_below (Kd.rU O_0.out) hb); replace HB := Y0.mk (Y4 (hU HB.out) hb); (try clear hb); (try clear hb2); (try clear hk); (try clear hi)) | ((with_reducible refine Y8 (f := 81) rfl ?_); refine goesA (some 27) Try.func81 #[] ?_; (with_reducible refine (YE.calls  t_j t_1c t_1e t_1g t_12 t_1t t_1o t_13 t_23 t_o t_1s t_1i t_g _ A6.out).mono ?_); rintro e w51 ⟨rfl, hb⟩; refine ⟨_, rfl, ?_⟩; replace O_1 := Y0.mk (Kd.R_below (Kd.rU O_1.out) hb); replace O_0 := Y0.mk (Kd.R_below (Kd.rU O_0.out) hb); replace HB := Y0.mk (Y4 (hU HB.out) hb); (try clear hb); (try clear hb2); (try clear hk); (try clear hi)) | ((with_reducible refine Yl (N := 28) rfl ?_); (try (refine Y1F (by rfl) ?_; dsimp only)); refine Kd.R_lit k30 _ 30 ?hg (N := 28) ?hd (xs := ([(⟨(⟨t_1q, t_c⟩ : S26), t_d, (⟨t_1r, t_x⟩ : S26), t_m, (⟨t_1v, t_16, t_1w, t_1k, t_1h, t_1n, t_1a⟩ : S28)⟩ : S30), (⟨(⟨t_j, t_1c⟩ : S26), t_1e, (⟨t_1g, t_12⟩ : S26), t_1t, (⟨t_1o, t_13, t_23, t_o, t_1s, t_1i, t_g⟩ : S28)⟩ : S30)] : List (S30))) (inner := [.int .i64 t_1q, .int .i64 t_c, .int .i64 t_d, .int .i64 t_1r, .int .i64 t_x, .bool t_m, .int .i64 t_1v, .int .i64 t_16, .int .i64 t_1w, .int .i64 t_1k, .int .i64 t_1h, .int .i64 t_1n, .int .i64 t_1a, .int .i64 t_j, .int .i64 t_1c, .int .i64 t_1e, .int .i64 t_1g, .int .i64 t_12, .bool t_1t, .int .i64 t_1o, .int .i64 t_13, .int .i64 t_23, .int .i64 t_o, .int .i64 t_1s, .int .i64 t_1i, .int .i64 t_g]) (ok := fun _ => True) (okp := fun _ => True) ?hr ?hp (fun _ hk => hk) trivial (Below.refl _ _) (Nat.le_refl _) (by simp) ?_; (case hd => rfl); (case hg => rfl); (case hr => first | (go_simp; done) | (go_simp; rfl)); (case hp => exact (Reps.front (show Kd.M k30 _ _ _ (⟨(⟨t_1q, t_c⟩ : S26), t_d, (⟨t_1r, t_x⟩ : S26), t_m, (⟨t_1v, t_16, t_1w, t_1k, t_1h, t_1n, t_1a⟩ : S28)⟩ : S30) [.int .i64 t_1q, .int .i64 t_c, .int .i64 t_d, .int .i64 t_1r, .int .i64 t_x, .bool t_m, .int .i64 t_1v, .int .i64 t_16, .int .i64 t_1w, .int .i64 t_1k, .int .i64 t_1h, .int .i64 t_1n, .int .i64 t_1a] from (Y1V _ _ _ (⟨(⟨t_1q, t_c⟩ : S26), t_d, (⟨t_1r, t_x⟩ : S26), t_m, (⟨t_1v, t_16, t_1w, t_1k, t_1h, t_1n, t_1a⟩ : S28)⟩ : S30) )) rfl (Reps.front (show Kd.M k30 _ _ _ (⟨(⟨t_j, t_1c⟩ : S26), t_1e, (⟨t_1g, t_12⟩ : S26), t_1t, (⟨t_1o, t_13, t_23, t_o, t_1s, t_1i, t_g⟩ : S28)⟩ : S30) [.int .i64 t_j, .int .i64 t_1c, .int .i64 t_1e, .int .i64 t_1g, .int .i64 t_12, .bool t_1t, .int .i64 t_1o, .int .i64 t_13, .int .i64 t_23, .int .i64 t_o, .int .i64 t_1s, .int .i64 t_1i, .int .i64 t_g] from (Y1V _ _ _ (⟨(⟨t_j, t_1c⟩ : S26), t_1e, (⟨t_1g, t_12⟩ : S26), t_1t, (⟨t_1o, t_13, t_23, t_o, t_1s, t_1i, t_g⟩ : S28)⟩ : S30) )) rfl (Reps.none _ _) rfl) rfl)); intro v_8 w52 ho53 hb hg_ hnew_; clear hg_ hnew_; (first | rw [← Ny1167.out] at ho53 | (simp only [Int.reduceToNat] at ho53; rw [← Ny1167.out] at ho53)); have n0_ := Y0.mk (Kd.R_below (Kd.rU O_1.out) hb); have n1_ := Y0.mk (Kd.R_below (Kd.rU O_0.out) hb); have n2_ := Y0.mk (Kd.R_lower ho53 (Yi (hU HB.out))); have n3_ := Y0.mk (Y4 (hU HB.out) hb); clear O_1; clear O_0; clear HB; have O_1 := n0_; have O_0 := n1_; have O_3 := n2_; have HB := n3_; clear n0_ n1_ n2_ n3_; clear hb ho53; obtain ⟨Ao54, co54, eo54⟩ := Kd.R_slice O_3.out; subst eo54) | ((with_reducible refine Yl (N := 5) rfl ?_); (try (refine Y1F (by rfl) ?_; dsimp only)); refine Yk ?hg (N := 5) ?hd (cs := #[.int .i64 0, .slice none 0 0]) (t := 24) ?hr ?_; (case hd => rfl); (case hg => rfl); (case hr => first | (go_simp; done) | (go_simp; rfl)); intro g_1 hg w55 hbox hb; have n0_ := Y0.mk (Kd.R_below (Kd.rU O_1.out) hb); have n1_ := Y0.mk (Kd.R_below (Kd.rU O_0.out) hb); have n2_ := Y0.mk (Kd.R_below (Kd.rU O_3.out) hb); have n3_ := Y0.mk (Y4 (hU HB.out) hb); have n4_ := Y0.mk (hbox); have n5_ := gE hg HB; have n6_ := gE hg HB; clear O_1; clear O_0; clear O_3; clear HB; have O_1 := n0_; have O_0 := n1_; have O_3 := n2_; have HB := n3_; have B_0 := n4_; have W_2 := n5_; have G_2 := n6_; clear n0_ n1_ n2_ n3_ n4_ n5_ n6_; clear hb hbox hg; have z_0 := Y1 B_0.out; have f_2 := Y3 B_0.out) | ((with_reducible refine Y8 (f := 44) rfl ?_); refine goesA (some 32) Try.func44 #[.agg #[.int .i64 2, .slice Ao54 y1167.length co54]] ?_; (with_reducible refine (Y1s.calls k 2 _ _ y1167 t_7 t_38 _ ?side1 ?side2 A7.out).mono ?_); (case side1 => refine (Kd.R_reads' (e := 30) (base := w.heap.size) (ok := fun k_ => True) (n := y1167.length) (c := co54) ?_).2.2; exact (by (with_reducible repeat (first | apply Kd.R_alloc | apply Kd.R_drewN | apply Kd.R_drew)); exact (Kd.R_mono (Kd.R_far (p := ⟨g_1, 1, none⟩) (Kd.R_far (p := ⟨g_1, 0, none⟩) (Kd.R_types O_3.out B_0.out (by decide)) (fun _ hk => hk.2) (.int .i64 2)) (fun _ hk => hk.2) (.slice Ao54 y1167.length co54)) (fun _ h_ => h_.1)))); (case side2 => exact (Kd.R_reads' O_3.out).2.1); rintro e w57 ⟨v_5, rfl, ho0, hb⟩; refine ⟨_, rfl, ?_⟩; replace O_3 := Y0.mk (Kd.R_below (by (with_reducible repeat (first | apply Kd.R_alloc | apply Kd.R_drewN | apply Kd.R_drew)); exact (Kd.R_mono (Kd.R_far (p := ⟨g_1, 1, none⟩) (Kd.R_far (p := ⟨g_1, 0, none⟩) (Kd.R_types O_3.out B_0.out (by decide)) (fun _ hk => hk.2) (.int .i64 2)) (fun _ hk => hk.2) (.slice Ao54 y1167.length co54)) (fun _ h_ => h_.1))) hb); replace O_2 := Y0.mk (Kd.R_lower (Kd.R_new' (Kd.R_new' ho0 (Kd.R_lt (by (with_reducible repeat (first | apply Kd.R_alloc | apply Kd.R_drewN | apply Kd.R_drew)); exact (Kd.R_mono (Kd.R_far (p := ⟨g_1, 1, none⟩) (Kd.R_far (p := ⟨g_1, 0, none⟩) (Kd.R_types O_1.out B_0.out (by decide)) (fun _ hk => hk.2) (.int .i64 2)) (fun _ hk => hk.2) (.slice Ao54 y1167.length co54)) (fun _ h_ => h_.1))))) (Kd.R_lt (by (with_reducible repeat (first | apply Kd.R_alloc | apply Kd.R_drewN | apply Kd.R_drew)); exact (Kd.R_mono (Kd.R_far (p := ⟨g_1, 1, none⟩) (Kd.R_far (p := ⟨g_1, 0, none⟩) (Kd.R_types O_0.out B_0.out (by decide)) (fun _ hk => hk.2) (.int .i64 2)) (fun _ hk => hk.2) (.slice Ao54 y1167.length co54)) (fun _ h_ => h_.1))))) (Yi (hU HB.out))); replace O_1 := Y0.mk (Kd.R_elder' (by (with_reducible repeat (first | apply Kd.R_alloc | apply Kd.R_drewN | apply Kd.R_drew)); exact (Kd.R_mono (Kd.R_far (p := ⟨g_1, 1, none⟩) (Kd.R_far (p := ⟨g_1, 0, none⟩) (Kd.R_types O_1.out B_0.out (by decide)) (fun _ hk => hk.2) (.int .i64 2)) (fun _ hk => hk.2) (.slice Ao54 y1167.length co54)) (fun _ h_ => h_.1))) (Kd.R_base ho0) hb); replace O_0 := Y0.mk (Kd.R_elder' (by (with_reducible repeat (first | apply Kd.R_alloc | apply Kd.R_drewN | apply Kd.R_drew)); exact (Kd.R_mono (Kd.R_far (p := ⟨g_1, 1, none⟩) (Kd.R_far (p := ⟨g_1, 0, none⟩) (Kd.R_types O_0.out B_0.out (by decide)) (fun _ hk => hk.2) (.int .i64 2)) (fun _ hk => hk.2) (.slice Ao54 y1167.length co54)) (fun _ h_ => h_.1))) (Kd.R_base ho0) hb); replace B_0 := Y0.mk (Y6 (g := g_1) (o := .cells #[.int .i64 2, .slice Ao54 y1167.length co54] 24 (0, 0)) (by (with_reducible repeat (first | refine Yh ?_ _ | refine Yd ?_ | refine Yc ?_ _)); refine Yw (cs := #[.int .i64 2, .slice none 0 0]) ?_ 1 _ rfl; (with_reducible repeat (first | refine Yh ?_ _ | refine Yd ?_ | refine Yc ?_ _)); refine Yw (cs := #[.int .i64 0, .slice none 0 0]) ?_ 0 _ rfl; (with_reducible repeat (first | refine Yh ?_ _ | refine Yd ?_ | refine Yc ?_ _)); exact B_0.out) hb); replace HB := Y0.mk (Y4 (hU HB.out) hb); (try clear hb); (try clear hb2); (try clear hk); (try clear hi); (try clear ho0); obtain ⟨Ao58, co58, eo58⟩ := Kd.R_slice O_0.out; subst eo58; obtain ⟨Ao59, co59, eo59⟩ := Kd.R_slice O_2.out; subst eo59) | (go_at_call 40; (with_reducible refine (YG.calls _ _ t_7 _ _ t_0 true _ ?side1 ?side2 ?side3 ?side4 A13.out).mono ?_); (case side1 => repeat (first | exact (Kd.R_reads' O_2.out).2.2 | (with_reducible refine Kd.C_alloc ?_ _) | (with_reducible refine Kd.C_drewN ?_ _) | (with_reducible refine Kd.C_drew ?_))); (case side2 => exact (Kd.R_reads' O_2.out).2.1); (case side3 => repeat (first | exact (Kd.R_reads' O_0.out).2.2 | (with_reducible refine Kd.C_alloc ?_ _) | (with_reducible refine Kd.C_drewN ?_ _) | (with_reducible refine Kd.C_drew ?_))); (case side4 => exact (Kd.R_reads' O_0.out).2.1); rintro e w' ⟨rfl, ⟨nd, rfl⟩⟩; (try (rw [Y2z w57]; generalize hq_ : World.drewN w57 _ = w57; have n0_ : Y0 (Kd.R (Kd.int .u8) 5 w57 w.heap.size (fun k_ => some k_ ≠ (.slice Ao58 t_0.length co58 : Value).ownBlock ∧ some k_ ≠ (.slice Ao59 t_7.length co59 : Value).ownBlock) (.slice Ao48 t_1.length co48) t_1) := ⟨by rw [← hq_]; exact (by (with_reducible repeat (first | apply Kd.R_alloc | apply Kd.R_drewN | apply Kd.R_drew)); exact Kd.R_mono O_1.out (fun _ hk => by revert hk; simp only [and_imp]; intros; (repeat' apply And.intro) <;> assumption))⟩; have n1_ : Y0 (Kd.R (Kd.int .u8) 5 w57 w.heap.size (fun k_ => some k_ ≠ (.slice Ao48 t_1.length co48 : Value).ownBlock ∧ some k_ ≠ (.slice Ao59 t_7.length co59 : Value).ownBlock) (.slice Ao58 t_0.length co58) t_0) := ⟨by rw [← hq_]; exact (by (with_reducible repeat (first | apply Kd.R_alloc | apply Kd.R_drewN | apply Kd.R_drew)); exact Kd.R_mono O_0.out (fun _ hk => by revert hk; simp only [and_imp]; intros; (repeat' apply And.intro) <;> assumption))⟩; have n2_ : Y0 (Kd.R k30 30 w57 w.heap.size (fun _ => True) (.slice Ao54 y1167.length co54) y1167) := ⟨by rw [← hq_]; exact (Kd.rU O_3.out)⟩; have n3_ : Y0 (Kd.R (Kd.int .u8) 5 w57 w.heap.size (fun k_ => some k_ ≠ (.slice Ao48 t_1.length co48 : Value).ownBlock ∧ some k_ ≠ (.slice Ao58 t_0.length co58 : Value).ownBlock) (.slice Ao59 t_7.length co59) t_7) := ⟨by rw [← hq_]; exact (by (with_reducible repeat (first | apply Kd.R_alloc | apply Kd.R_drewN | apply Kd.R_drew)); exact Kd.R_mono O_2.out (fun _ hk => by revert hk; simp only [and_imp]; intros; (repeat' apply And.intro) <;> assumption))⟩; have n4_ : Y0 (w57.heap[g_1]? = some (.cells #[.int .i64 2, .slice Ao54 y1167.length co54] 24 (0, 0))) := ⟨by rw [← hq_]; exact (bU B_0.out)⟩; have n5_ : Y0 (Below w.heap.size w w57) := ⟨by rw [← hq_]; exact (hU HB.out)⟩; clear O_1 O_0 O_3 O_2 B_0 HB hq_; have O_1 := n0_; have O_0 := n1_; have O_3 := n2_; have O_2 := n3_; have B_0 := n4_; have HB := n5_; clear n0_ n1_ n2_ n3_ n4_ n5_)); (try have hcy1170 := Y1 B_0.out); (try have hfy1170 := Y3 B_0.out)) | ((with_reducible refine Y8 (f := 41) rfl ?_); refine goesA (some 65) Try.func41 #[.int .i64 2, .slice Ao58 t_0.length co58] ?_; (with_reducible refine (Yy.calls k 2 _ _ t_0 t_8 t_3 t_27 t_26 _ ?side1 ?side2 A15.out).mono ?_); (case side1 => repeat (first | exact (Kd.R_reads' O_0.out).2.2 | (with_reducible refine Kd.C_alloc ?_ _) | (with_reducible refine Kd.C_drewN ?_ _) | (with_reducible refine Kd.C_drew ?_))); (case side2 => exact (Kd.R_reads' O_0.out).2.1); rintro e w60 ⟨v_1, rfl, ho0, hb⟩; refine ⟨_, rfl, ?_⟩; replace O_1 := Y0.mk (Kd.R_below (Kd.rU O_1.out) hb); replace O_0 := Y0.mk (Kd.R_below (Kd.rU O_0.out) hb); replace O_2 := Y0.mk (Kd.R_below (Kd.rU O_2.out) hb); replace O_4 := Y0.mk (Kd.R_lower (Kd.R_new' ho0 (Kd.R_lt (Kd.rU O_3.out))) (Yi (hU HB.out))); replace O_3 := Y0.mk (Kd.R_elder' (Kd.rU O_3.out) (Kd.R_base ho0) hb); replace B_0 := Y0.mk (Y6 (bU B_0.out) hb); replace HB := Y0.mk (Y4 (hU HB.out) hb); (try clear hb); (try clear hb2); (try clear hk); (try clear hi); (try clear ho0)) | ((with_reducible refine Yl (N := 8) rfl ?_); (try (refine Y1F (by rfl) ?_; dsimp only)); refine Yk ?hg (N := 8) ?hd (cs := #[.int .i64 0, .slice none 0 0]) (t := 24) ?hr ?_; (case hd => rfl); (case hg => rfl); (case hr => first | (go_simp; done) | (go_simp; rfl)); intro g_3 hg w61 hbox hb; have n0_ := Y0.mk (Kd.R_below (Kd.rU O_1.out) hb); have n1_ := Y0.mk (Kd.R_below (Kd.rU O_0.out) hb); have n2_ := Y0.mk (Kd.R_below (Kd.rU O_3.out) hb); have n3_ := Y0.mk (Kd.R_below (Kd.rU O_2.out) hb); have n4_ := Y0.mk (Kd.R_below (Kd.rU O_4.out) hb); have n5_ := Y0.mk (Y6 (bU B_0.out) hb); have n6_ := Y0.mk (Y4 (hU HB.out) hb); have n7_ := Y0.mk (hbox); have n8_ := gE hg HB; have n9_ := gE hg HB; have n10_ := gL hg B_0; have n11_ := gG hg B_0; clear O_1; clear O_0; clear O_3; clear O_2; clear O_4; clear B_0; clear HB; have O_1 := n0_; have O_0 := n1_; have O_3 := n2_; have O_2 := n3_; have O_4 := n4_; have B_0 := n5_; have HB := n6_; have B_1 := n7_; have W_1 := n8_; have G_3 := n9_; have N_4 := n10_; have N_9 := n11_; clear n0_ n1_ n2_ n3_ n4_ n5_ n6_ n7_ n8_ n9_ n10_ n11_; clear hb hbox hg; have hnb62 := N_9.out; have hnc62 := N_4.out; have z_3 := Y1 B_1.out; have f_0 := Y3 B_1.out; obtain ⟨Ao64, co64, eo64⟩ := Kd.R_slice O_4.out; subst eo64) | ((with_reducible refine Y36 (t := 24) (p := 8) rfl ?_); refine Y2Q (t := 24) (p := 8) (v := ?vo_w65) (w1 := ((w61.setCell ⟨g_3, 0, none⟩ (.int .i64 t_8)).setCell ⟨g_3, 1, none⟩ (.slice Ao64 t_3.length co64))) ?hg ?ho ?hn ?hr ?_; (case ho => rfl); (case hg => rfl); (case hn => rfl); (case hr => first | (go_simp; done) | (go_simp; rfl)); intro w65 hw; replace O_1 : Y0 (Kd.R (Kd.int .u8) 5 w65 w.heap.size (fun k_ => some k_ ≠ (.slice Ao58 t_0.length co58 : Value).ownBlock ∧ some k_ ≠ (.slice Ao59 t_7.length co59 : Value).ownBlock) (.slice Ao48 t_1.length co48) t_1) := ⟨(by rw [hw]; exact (by (with_reducible repeat (first | apply Kd.R_alloc | apply Kd.R_drewN | apply Kd.R_drew)); exact Kd.R_mono (Kd.R_far (p := ⟨g_3, 1, none⟩) (Kd.R_far (p := ⟨g_3, 0, none⟩) (Kd.R_types O_1.out B_1.out (by decide)) (fun _ hk => hk.2) (.int .i64 t_8)) (fun _ hk => hk.2) (.slice Ao64 t_3.length co64)) (fun _ hk => by revert hk; simp only [and_imp]; intros; (repeat' apply And.intro) <;> assumption)))⟩; replace O_0 : Y0 (Kd.R (Kd.int .u8) 5 w65 w.heap.size (fun k_ => some k_ ≠ (.slice Ao48 t_1.length co48 : Value).ownBlock ∧ some k_ ≠ (.slice Ao59 t_7.length co59 : Value).ownBlock) (.slice Ao58 t_0.length co58) t_0) := ⟨(by rw [hw]; exact (by (with_reducible repeat (first | apply Kd.R_alloc | apply Kd.R_drewN | apply Kd.R_drew)); exact Kd.R_mono (Kd.R_far (p := ⟨g_3, 1, none⟩) (Kd.R_far (p := ⟨g_3, 0, none⟩) (Kd.R_types O_0.out B_1.out (by decide)) (fun _ hk => hk.2) (.int .i64 t_8)) (fun _ hk => hk.2) (.slice Ao64 t_3.length co64)) (fun _ hk => by revert hk; simp only [and_imp]; intros; (repeat' apply And.intro) <;> assumption)))⟩; replace O_3 : Y0 (Kd.R k30 30 w65 w.heap.size (fun k_ => some k_ ≠ (.slice Ao64 t_3.length co64 : Value).ownBlock) (.slice Ao54 y1167.length co54) y1167) := ⟨(by rw [hw]; exact (by (with_reducible repeat (first | apply Kd.R_alloc | apply Kd.R_drewN | apply Kd.R_drew)); exact Kd.R_mono (Kd.R_far (p := ⟨g_3, 1, none⟩) (Kd.R_far (p := ⟨g_3, 0, none⟩) (Kd.R_types O_3.out B_1.out (by decide)) (fun _ hk => hk.2) (.int .i64 t_8)) (fun _ hk => hk.2) (.slice Ao64 t_3.length co64)) (fun _ hk => hk.1.2)))⟩; replace O_2 : Y0 (Kd.R (Kd.int .u8) 5 w65 w.heap.size (fun k_ => some k_ ≠ (.slice Ao48 t_1.length co48 : Value).ownBlock ∧ some k_ ≠ (.slice Ao58 t_0.length co58 : Value).ownBlock) (.slice Ao59 t_7.length co59) t_7) := ⟨(by rw [hw]; exact (by (with_reducible repeat (first | apply Kd.R_alloc | apply Kd.R_drewN | apply Kd.R_drew)); exact Kd.R_mono (Kd.R_far (p := ⟨g_3, 1, none⟩) (Kd.R_far (p := ⟨g_3, 0, none⟩) (Kd.R_types O_2.out B_1.out (by decide)) (fun _ hk => hk.2) (.int .i64 t_8)) (fun _ hk => hk.2) (.slice Ao64 t_3.length co64)) (fun _ hk => by revert hk; simp only [and_imp]; intros; (repeat' apply And.intro) <;> assumption)))⟩; replace O_4 : Y0 (Kd.R k30 30 w65 w.heap.size (fun k_ => some k_ ≠ (.slice Ao54 y1167.length co54 : Value).ownBlock) (.slice Ao64 t_3.length co64) t_3) := ⟨(by rw [hw]; exact (by (with_reducible repeat (first | apply Kd.R_alloc | apply Kd.R_drewN | apply Kd.R_drew)); exact Kd.R_mono (Kd.R_far (p := ⟨g_3, 1, none⟩) (Kd.R_far (p := ⟨g_3, 0, none⟩) (Kd.R_types O_4.out B_1.out (by decide)) (fun _ hk => hk.2) (.int .i64 t_8)) (fun _ hk => hk.2) (.slice Ao64 t_3.length co64)) (fun _ hk => hk.1.2)))⟩; replace B_0 : Y0 (w65.heap[g_1]? = some (.cells #[.int .i64 2, .slice Ao54 y1167.length co54] 24 (0, 0))) := ⟨(by rw [hw]; exact (by (with_reducible repeat (first | refine Yh ?_ _ | refine Yd ?_ | refine Yc ?_ _)); refine (Below.heap_setCell _ ⟨_, _, none⟩ _ _ N_4.out).trans ?_; (with_reducible repeat (first | refine Yh ?_ _ | refine Yd ?_ | refine Yc ?_ _)); refine (Below.heap_setCell _ ⟨_, _, none⟩ _ _ N_4.out).trans ?_; (with_reducible repeat (first | refine Yh ?_ _ | refine Yd ?_ | refine Yc ?_ _)); exact B_0.out))⟩; replace B_1 : Y0 (w65.heap[g_3]? = some (.cells #[.int .i64 t_8, .slice Ao64 t_3.length co64] 24 (0, 0))) := ⟨(by rw [hw]; exact (by (with_reducible repeat (first | refine Yh ?_ _ | refine Yd ?_ | refine Yc ?_ _)); refine Yw (cs := #[.int .i64 t_8, .slice none 0 0]) ?_ 1 _ rfl; (with_reducible repeat (first | refine Yh ?_ _ | refine Yd ?_ | refine Yc ?_ _)); refine Yw (cs := #[.int .i64 0, .slice none 0 0]) ?_ 0 _ rfl; (with_reducible repeat (first | refine Yh ?_ _ | refine Yd ?_ | refine Yc ?_ _)); exact B_1.out))⟩; replace HB : Y0 (Below w.heap.size w w65) := ⟨(by rw [hw]; exact (hU HB.out))⟩; (try clear hw); have q66 : ((ji16) : Int) ≤ ((t_0.length : Int) : Int) := of_decide_eq_true (by first | (with_reducible assumption) | assumption); obtain ⟨i066, hi066, _, hsz66, _⟩ := info_parts info5; have hroom66 : t_0.length ≤ co58 := (Kd.R_reads' O_0.out).2.1; have hC66 : Kd.C (Kd.int .u8) _ Ao58 t_0.length t_0 := (Kd.R_reads' O_0.out).2.2; have hcut66 := Y5U (P := Try.prog) 60 5 .i64 Try.underlying60 hi066 Ao58 t_0.length co58 (ji16) (of_decide_eq_true (by first | (with_reducible assumption) | assumption)) q66 hroom66; have hr66 := Kd.C_take (m := ((ji16) : Int).toNat) hC66 (by omega); have hy66 : y1183.length = ((ji16) : Int).toNat := (by rw [Ny1183.out, List.length_take]; omega); rw [← Ny1183.out] at hr66; rw [← hy66] at hcut66; have HR1186 := Y0.mk hr66; have HC1186 := Y0.mk (show y1183.length ≤ co58 from by omega); clear hr66 hC66 hroom66 hi066 hsz66; have KY66 := Y0.mk hy66; clear hy66; have KL66 := Y0.mk (show ((ji16) : Int).toNat ≤ t_0.length from by omega); replace q66 := eq_true q66) | ((with_reducible refine Y8 (f := 41) rfl ?_); refine goesA (some 75) Try.func41 #[.int .i64 2, .slice Ao58 y1183.length co58] ?_; (with_reducible refine (Yy.calls k 2 _ _ y1183 t_9 t_5 t_2q t_34 _ ?side1 ?side2 A19.out).mono ?_); (case side1 => repeat (first | exact (by repeat (first | (with_reducible exact HR1186.out) | (with_reducible refine Kd.C_alloc ?_ _) | (with_reducible refine Kd.C_drewN ?_ _) | (with_reducible refine Kd.C_drew ?_) | exact HR1186.out)) | (with_reducible refine Kd.C_alloc ?_ _) | (with_reducible refine Kd.C_drewN ?_ _) | (with_reducible refine Kd.C_drew ?_))); (case side2 => exact HC1186.out); rintro e w67 ⟨v_a, rfl, ho0, hb⟩; refine ⟨_, rfl, ?_⟩; replace O_1 := Y0.mk (Kd.R_below (Kd.rU O_1.out) hb); replace O_0 := Y0.mk (Kd.R_below (Kd.rU O_0.out) hb); replace O_2 := Y0.mk (Kd.R_below (Kd.rU O_2.out) hb); replace O_5 := Y0.mk (Kd.R_lower (Kd.R_new' (Kd.R_new' ho0 (Kd.R_lt (Kd.rU O_3.out))) (Kd.R_lt (Kd.rU O_4.out))) (Yi (hU HB.out))); replace O_3 := Y0.mk (Kd.R_elder' (Kd.rU O_3.out) (Kd.R_base ho0) hb); replace O_4 := Y0.mk (Kd.R_elder' (Kd.rU O_4.out) (Kd.R_base ho0) hb); replace B_0 := Y0.mk (Y6 (bU B_0.out) hb); replace B_1 := Y0.mk (Y6 (bU B_1.out) hb); replace HR1186 := Y0.mk (Kd.C_below (by repeat (first | (with_reducible exact HR1186.out) | (with_reducible refine Kd.C_alloc ?_ _) | (with_reducible refine Kd.C_drewN ?_ _) | (with_reducible refine Kd.C_drew ?_) | exact HR1186.out)) hb); replace HB := Y0.mk (Y4 (hU HB.out) hb); (try clear hb); (try clear hb2); (try clear hk); (try clear hi); (try clear ho0)) | ((with_reducible refine Yl (N := 10) rfl ?_); (try (refine Y1F (by rfl) ?_; dsimp only)); refine Yk ?hg (N := 10) ?hd (cs := #[.int .i64 0, .slice none 0 0]) (t := 24) ?hr ?_; (case hd => rfl); (case hg => rfl); (case hr => first | (go_simp; done) | (go_simp; rfl)); intro g_2 hg w68 hbox hb; have n0_ := Y0.mk (Kd.R_below (Kd.rU O_1.out) hb); have n1_ := Y0.mk (Kd.R_below (Kd.rU O_0.out) hb); have n2_ := Y0.mk (Kd.R_below (Kd.rU O_3.out) hb); have n3_ := Y0.mk (Kd.R_below (Kd.rU O_2.out) hb); have n4_ := Y0.mk (Kd.R_below (Kd.rU O_4.out) hb); have n5_ := Y0.mk (Kd.R_below (Kd.rU O_5.out) hb); have n6_ := Y0.mk (Y6 (bU B_0.out) hb); have n7_ := Y0.mk (Y6 (bU B_1.out) hb); have n8_ := Y0.mk (Y4 (hU HB.out) hb); have n9_ := Y0.mk (hbox); have n10_ := gE hg HB; have n11_ := gE hg HB; have n12_ := gL hg B_0; have n13_ := gG hg B_0; have n14_ := gL hg B_1; have n15_ := gG hg B_1; clear O_1; clear O_0; clear O_3; clear O_2; clear O_4; clear O_5; clear B_0; clear B_1; clear HB; have O_1 := n0_; have O_0 := n1_; have O_3 := n2_; have O_2 := n3_; have O_4 := n4_; have O_5 := n5_; have B_0 := n6_; have B_1 := n7_; have HB := n8_; have B_2 := n9_; have W_0 := n10_; have G_1 := n11_; have N_3 := n12_; have N_a := n13_; have N_1 := n14_; have N_8 := n15_; clear n0_ n1_ n2_ n3_ n4_ n5_ n6_ n7_ n8_ n9_ n10_ n11_ n12_ n13_ n14_ n15_; clear hb hbox hg; have hnb69 := N_a.out; have hnc69 := N_3.out; have hnb70 := N_8.out; have hnc70 := N_1.out; have z_1 := Y1 B_2.out; have f_3 := Y3 B_2.out; obtain ⟨Ao72, co72, eo72⟩ := Kd.R_slice O_5.out; subst eo72) | ((with_reducible refine Y36 (t := 24) (p := 10) rfl ?_); refine Y2Q (t := 24) (p := 10) (v := ?vo_w73) (w1 := ((w68.setCell ⟨g_2, 0, none⟩ (.int .i64 t_9)).setCell ⟨g_2, 1, none⟩ (.slice Ao72 t_5.length co72))) ?hg ?ho ?hn ?hr ?_; (case ho => rfl); (case hg => rfl); (case hn => rfl); (case hr => first | (go_simp; done) | (go_simp; rfl)); intro w73 hw; replace O_1 : Y0 (Kd.R (Kd.int .u8) 5 w73 w.heap.size (fun k_ => some k_ ≠ (.slice Ao58 t_0.length co58 : Value).ownBlock ∧ some k_ ≠ (.slice Ao59 t_7.length co59 : Value).ownBlock) (.slice Ao48 t_1.length co48) t_1) := ⟨(by rw [hw]; exact (by (with_reducible repeat (first | apply Kd.R_alloc | apply Kd.R_drewN | apply Kd.R_drew)); exact Kd.R_mono (Kd.R_far (p := ⟨g_2, 1, none⟩) (Kd.R_far (p := ⟨g_2, 0, none⟩) (Kd.R_types O_1.out B_2.out (by decide)) (fun _ hk => hk.2) (.int .i64 t_9)) (fun _ hk => hk.2) (.slice Ao72 t_5.length co72)) (fun _ hk => by revert hk; simp only [and_imp]; intros; (repeat' apply And.intro) <;> assumption)))⟩; replace O_0 : Y0 (Kd.R (Kd.int .u8) 5 w73 w.heap.size (fun k_ => some k_ ≠ (.slice Ao48 t_1.length co48 : Value).ownBlock ∧ some k_ ≠ (.slice Ao59 t_7.length co59 : Value).ownBlock) (.slice Ao58 t_0.length co58) t_0) := ⟨(by rw [hw]; exact (by (with_reducible repeat (first | apply Kd.R_alloc | apply Kd.R_drewN | apply Kd.R_drew)); exact Kd.R_mono (Kd.R_far (p := ⟨g_2, 1, none⟩) (Kd.R_far (p := ⟨g_2, 0, none⟩) (Kd.R_types O_0.out B_2.out (by decide)) (fun _ hk => hk.2) (.int .i64 t_9)) (fun _ hk => hk.2) (.slice Ao72 t_5.length co72)) (fun _ hk => by revert hk; simp only [and_imp]; intros; (repeat' apply And.intro) <;> assumption)))⟩; replace O_3 : Y0 (Kd.R k30 30 w73 w.heap.size (fun k_ => some k_ ≠ (.slice Ao64 t_3.length co64 : Value).ownBlock ∧ some k_ ≠ (.slice Ao72 t_5.length co72 : Value).ownBlock) (.slice Ao54 y1167.length co54) y1167) := ⟨(by rw [hw]; exact (by (with_reducible repeat (first | apply Kd.R_alloc | apply Kd.R_drewN | apply Kd.R_drew)); exact Kd.R_mono (Kd.R_far (p := ⟨g_2, 1, none⟩) (Kd.R_far (p := ⟨g_2, 0, none⟩) (Kd.R_types O_3.out B_2.out (by decide)) (fun _ hk => hk.2) (.int .i64 t_9)) (fun _ hk => hk.2) (.slice Ao72 t_5.length co72)) (fun _ hk => by revert hk; simp only [and_imp]; intros; (repeat' apply And.intro) <;> assumption)))⟩; replace O_2 : Y0 (Kd.R (Kd.int .u8) 5 w73 w.heap.size (fun k_ => some k_ ≠ (.slice Ao48 t_1.length co48 : Value).ownBlock ∧ some k_ ≠ (.slice Ao58 t_0.length co58 : Value).ownBlock) (.slice Ao59 t_7.length co59) t_7) := ⟨(by rw [hw]; exact (by (with_reducible repeat (first | apply Kd.R_alloc | apply Kd.R_drewN | apply Kd.R_drew)); exact Kd.R_mono (Kd.R_far (p := ⟨g_2, 1, none⟩) (Kd.R_far (p := ⟨g_2, 0, none⟩) (Kd.R_types O_2.out B_2.out (by decide)) (fun _ hk => hk.2) (.int .i64 t_9)) (fun _ hk => hk.2) (.slice Ao72 t_5.length co72)) (fun _ hk => by revert hk; simp only [and_imp]; intros; (repeat' apply And.intro) <;> assumption)))⟩; replace O_4 : Y0 (Kd.R k30 30 w73 w.heap.size (fun k_ => some k_ ≠ (.slice Ao54 y1167.length co54 : Value).ownBlock ∧ some k_ ≠ (.slice Ao72 t_5.length co72 : Value).ownBlock) (.slice Ao64 t_3.length co64) t_3) := ⟨(by rw [hw]; exact (by (with_reducible repeat (first | apply Kd.R_alloc | apply Kd.R_drewN | apply Kd.R_drew)); exact Kd.R_mono (Kd.R_far (p := ⟨g_2, 1, none⟩) (Kd.R_far (p := ⟨g_2, 0, none⟩) (Kd.R_types O_4.out B_2.out (by decide)) (fun _ hk => hk.2) (.int .i64 t_9)) (fun _ hk => hk.2) (.slice Ao72 t_5.length co72)) (fun _ hk => by revert hk; simp only [and_imp]; intros; (repeat' apply And.intro) <;> assumption)))⟩; replace O_5 : Y0 (Kd.R k30 30 w73 w.heap.size (fun k_ => some k_ ≠ (.slice Ao54 y1167.length co54 : Value).ownBlock ∧ some k_ ≠ (.slice Ao64 t_3.length co64 : Value).ownBlock) (.slice Ao72 t_5.length co72) t_5) := ⟨(by rw [hw]; exact (by (with_reducible repeat (first | apply Kd.R_alloc | apply Kd.R_drewN | apply Kd.R_drew)); exact Kd.R_mono (Kd.R_far (p := ⟨g_2, 1, none⟩) (Kd.R_far (p := ⟨g_2, 0, none⟩) (Kd.R_types O_5.out B_2.out (by decide)) (fun _ hk => hk.2) (.int .i64 t_9)) (fun _ hk => hk.2) (.slice Ao72 t_5.length co72)) (fun _ hk => by revert hk; simp only [and_imp]; intros; (repeat' apply And.intro) <;> assumption)))⟩; replace B_0 : Y0 (w73.heap[g_1]? = some (.cells #[.int .i64 2, .slice Ao54 y1167.length co54] 24 (0, 0))) := ⟨(by rw [hw]; exact (by (with_reducible repeat (first | refine Yh ?_ _ | refine Yd ?_ | refine Yc ?_ _)); refine (Below.heap_setCell _ ⟨_, _, none⟩ _ _ N_3.out).trans ?_; (with_reducible repeat (first | refine Yh ?_ _ | refine Yd ?_ | refine Yc ?_ _)); refine (Below.heap_setCell _ ⟨_, _, none⟩ _ _ N_3.out).trans ?_; (with_reducible repeat (first | refine Yh ?_ _ | refine Yd ?_ | refine Yc ?_ _)); exact B_0.out))⟩; replace B_1 : Y0 (w73.heap[g_3]? = some (.cells #[.int .i64 t_8, .slice Ao64 t_3.length co64] 24 (0, 0))) := ⟨(by rw [hw]; exact (by (with_reducible repeat (first | refine Yh ?_ _ | refine Yd ?_ | refine Yc ?_ _)); refine (Below.heap_setCell _ ⟨_, _, none⟩ _ _ N_1.out).trans ?_; (with_reducible repeat (first | refine Yh ?_ _ | refine Yd ?_ | refine Yc ?_ _)); refine (Below.heap_setCell _ ⟨_, _, none⟩ _ _ N_1.out).trans ?_; (with_reducible repeat (first | refine Yh ?_ _ | refine Yd ?_ | refine Yc ?_ _)); exact B_1.out))⟩; replace B_2 : Y0 (w73.heap[g_2]? = some (.cells #[.int .i64 t_9, .slice Ao72 t_5.length co72] 24 (0, 0))) := ⟨(by rw [hw]; exact (by (with_reducible repeat (first | refine Yh ?_ _ | refine Yd ?_ | refine Yc ?_ _)); refine Yw (cs := #[.int .i64 t_9, .slice none 0 0]) ?_ 1 _ rfl; (with_reducible repeat (first | refine Yh ?_ _ | refine Yd ?_ | refine Yc ?_ _)); refine Yw (cs := #[.int .i64 0, .slice none 0 0]) ?_ 0 _ rfl; (with_reducible repeat (first | refine Yh ?_ _ | refine Yd ?_ | refine Yc ?_ _)); exact B_2.out))⟩; replace HB : Y0 (Below w.heap.size w w73) := ⟨(by rw [hw]; exact (hU HB.out))⟩; (try clear hw); have q74 : ((t_1.length : Int) : Int) ≤ ((t_0.length : Int) : Int) := of_decide_eq_true (by first | (with_reducible assumption) | assumption); obtain ⟨i074, hi074, _, hsz74, _⟩ := info_parts info5; have hroom74 : t_0.length ≤ co58 := (Kd.R_reads' O_0.out).2.1; have hC74 : Kd.C (Kd.int .u8) _ Ao58 t_0.length t_0 := (Kd.R_reads' O_0.out).2.2; have q074 : (0 : Int) ≤ ((t_1.length : Int) : Int) := of_decide_eq_true (by first | (with_reducible assumption) | assumption); have hcut74 := Y3d (P := Try.prog) 60 5 .i64 Try.underlying60 hi074 1 hsz74 Ao58 t_0.length co58 (t_1.length : Int) q074 q74; have hr74 := Kd.C_drop (m := ((t_1.length : Int) : Int).toNat) (c := co58) hC74 (by omega) hroom74; obtain ⟨A74, hA74⟩ : ∃ A1, A1 = (if co58 = ((t_1.length : Int) : Int).toNat then Ao58 else (Ao58 : Option Addr).map (·.add (((t_1.length : Int) : Int).toNat * 1))) := ⟨_, rfl⟩; obtain ⟨c74, hc74⟩ : ∃ c1, c1 = co58 - ((t_1.length : Int) : Int).toNat := ⟨_, rfl⟩; have hy74 : y1194.length = t_0.length - ((t_1.length : Int) : Int).toNat := (by rw [Ny1194.out, List.length_drop] <;> omega); rw [show (t_0).drop ((t_1.length : Int) : Int).toNat = y1194 from Ny1194.out.symm] at hr74; replace hr74 : Kd.C (Kd.int .u8) _ A74 y1194.length y1194 := (by rw [hA74]; exact hr74); rw [← hy74, ← hA74, ← hc74] at hcut74; have HR1197 := Y0.mk hr74; have HC1197 := Y0.mk (show y1194.length ≤ c74 from by rw [hy74, hc74]; exact Nat.sub_le_sub_right hroom74 _); clear hr74 hC74 hroom74 hi074 hsz74 hc74; have KY74 := Y0.mk hy74; have KA74 := Y0.mk hA74; clear hy74 hA74; have KL74 := Y0.mk (show ((t_1.length : Int) : Int).toNat ≤ t_0.length from by omega); replace q74 := eq_true q74) | ((with_reducible refine Y8 (f := 41) rfl ?_); refine goesA (some 84) Try.func41 #[.int .i64 2, .slice A74 y1194.length c74] ?_; (with_reducible refine (Yy.calls k 2 _ _ y1194 t_4 t_2 t_32 t_3b _ ?side1 ?side2 A22.out).mono ?_); (case side1 => repeat (first | exact (by repeat (first | (with_reducible exact HR1197.out) | (with_reducible refine Kd.C_alloc ?_ _) | (with_reducible refine Kd.C_drewN ?_ _) | (with_reducible refine Kd.C_drew ?_) | exact HR1197.out)) | (with_reducible refine Kd.C_alloc ?_ _) | (with_reducible refine Kd.C_drewN ?_ _) | (with_reducible refine Kd.C_drew ?_))); (case side2 => exact HC1197.out); rintro e w75 ⟨v_4, rfl, ho0, hb⟩; refine ⟨_, rfl, ?_⟩; replace O_1 := Y0.mk (Kd.R_below (Kd.rU O_1.out) hb); replace O_0 := Y0.mk (Kd.R_below (Kd.rU O_0.out) hb); replace O_2 := Y0.mk (Kd.R_below (Kd.rU O_2.out) hb); replace O_6 := Y0.mk (Kd.R_lower (Kd.R_new' (Kd.R_new' (Kd.R_new' ho0 (Kd.R_lt (Kd.rU O_3.out))) (Kd.R_lt (Kd.rU O_4.out))) (Kd.R_lt (Kd.rU O_5.out))) (Yi (hU HB.out))); replace O_3 := Y0.mk (Kd.R_elder' (Kd.rU O_3.out) (Kd.R_base ho0) hb); replace O_4 := Y0.mk (Kd.R_elder' (Kd.rU O_4.out) (Kd.R_base ho0) hb); replace O_5 := Y0.mk (Kd.R_elder' (Kd.rU O_5.out) (Kd.R_base ho0) hb); replace B_0 := Y0.mk (Y6 (bU B_0.out) hb); replace B_1 := Y0.mk (Y6 (bU B_1.out) hb); replace B_2 := Y0.mk (Y6 (bU B_2.out) hb); replace HR1197 := Y0.mk (Kd.C_below (by repeat (first | (with_reducible exact HR1197.out) | (with_reducible refine Kd.C_alloc ?_ _) | (with_reducible refine Kd.C_drewN ?_ _) | (with_reducible refine Kd.C_drew ?_) | exact HR1197.out)) hb); replace HB := Y0.mk (Y4 (hU HB.out) hb); (try clear hb); (try clear hb2); (try clear hk); (try clear hi); (try clear ho0)) | ((with_reducible refine Yl (N := 12) rfl ?_); (try (refine Y1F (by rfl) ?_; dsimp only)); refine Yk ?hg (N := 12) ?hd (cs := #[.int .i64 0, .slice none 0 0]) (t := 24) ?hr ?_; (case hd => rfl); (case hg => rfl); (case hr => first | (go_simp; done) | (go_simp; rfl)); intro g_0 hg w76 hbox hb; have n0_ := Y0.mk (Kd.R_below (Kd.rU O_1.out) hb); have n1_ := Y0.mk (Kd.R_below (Kd.rU O_0.out) hb); have n2_ := Y0.mk (Kd.R_below (Kd.rU O_3.out) hb); have n3_ := Y0.mk (Kd.R_below (Kd.rU O_2.out) hb); have n4_ := Y0.mk (Kd.R_below (Kd.rU O_4.out) hb); have n5_ := Y0.mk (Kd.R_below (Kd.rU O_5.out) hb); have n6_ := Y0.mk (Kd.R_below (Kd.rU O_6.out) hb); have n7_ := Y0.mk (Y6 (bU B_0.out) hb); have n8_ := Y0.mk (Y6 (bU B_1.out) hb); have n9_ := Y0.mk (Y6 (bU B_2.out) hb); have n10_ := Y0.mk (Y4 (hU HB.out) hb); have n11_ := Y0.mk (hbox); have n12_ := gE hg HB; have n13_ := gE hg HB; have n14_ := gL hg B_0; have n15_ := gG hg B_0; have n16_ := gL hg B_1; have n17_ := gG hg B_1; have n18_ := gL hg B_2; have n19_ := gG hg B_2; clear O_1; clear O_0; clear O_3; clear O_2; clear O_4; clear O_5; clear O_6; clear B_0; clear B_1; clear B_2; clear HB; have O_1 := n0_; have O_0 := n1_; have O_3 := n2_; have O_2 := n3_; have O_4 := n4_; have O_5 := n5_; have O_6 := n6_; have B_0 := n7_; have B_1 := n8_; have B_2 := n9_; have HB := n10_; have B_3 := n11_; have W_3 := n12_; have G_0 := n13_; have N_2 := n14_; have N_b := n15_; have N_0 := n16_; have N_6 := n17_; have N_5 := n18_; have N_7 := n19_; clear n0_ n1_ n2_ n3_ n4_ n5_ n6_ n7_ n8_ n9_ n10_ n11_ n12_ n13_ n14_ n15_ n16_ n17_ n18_ n19_; clear hb hbox hg; have hnb77 := N_b.out; have hnc77 := N_2.out; have hnb78 := N_6.out; have hnc78 := N_0.out; have hnb79 := N_7.out; have hnc79 := N_5.out; have z_2 := Y1 B_3.out; have f_1 := Y3 B_3.out; obtain ⟨Ao81, co81, eo81⟩ := Kd.R_slice O_6.out; subst eo81))
 have n0_ : Y0 (Kd.R (Kd.int .u8) 5 ((w76.setCell ⟨g_0, 0, none⟩ (.int .i64 t_4)).setCell ⟨g_0, 1, none⟩ (.slice Ao81 t_2.length co81)) w.heap.size (fun k_ => some k_ ≠ (.slice Ao58 t_0.length co58 : Value).ownBlock ∧ some k_ ≠ (.slice Ao59 t_7.length co59 : Value).ownBlock) (.slice Ao48 t_1.length co48) t_1) := ⟨by (with_reducible repeat (first | apply Kd.R_alloc | apply Kd.R_drewN | apply Kd.R_drew)); exact Kd.R_mono (Kd.R_far (p := ⟨g_0, 1, none⟩) (Kd.R_far (p := ⟨g_0, 0, none⟩) (Kd.R_types O_1.out B_3.out (by decide)) (fun _ hk => hk.2) (.int .i64 t_4)) (fun _ hk => hk.2) (.slice Ao81 t_2.length co81)) (fun _ hk => by revert hk; simp only [and_imp]; intros; (repeat' apply And.intro) <;> assumption)⟩
 have n1_ : Y0 (Kd.R (Kd.int .u8) 5 ((w76.setCell ⟨g_0, 0, none⟩ (.int .i64 t_4)).setCell ⟨g_0, 1, none⟩ (.slice Ao81 t_2.length co81)) w.heap.size (fun k_ => some k_ ≠ (.slice Ao48 t_1.length co48 : Value).ownBlock ∧ some k_ ≠ (.slice Ao59 t_7.length co59 : Value).ownBlock) (.slice Ao58 t_0.length co58) t_0) := ⟨by (with_reducible repeat (first | apply Kd.R_alloc | apply Kd.R_drewN | apply Kd.R_drew)); exact Kd.R_mono (Kd.R_far (p := ⟨g_0, 1, none⟩) (Kd.R_far (p := ⟨g_0, 0, none⟩) (Kd.R_types O_0.out B_3.out (by decide)) (fun _ hk => hk.2) (.int .i64 t_4)) (fun _ hk => hk.2) (.slice Ao81 t_2.length co81)) (fun _ hk => by revert hk; simp only [and_imp]; intros; (repeat' apply And.intro) <;> assumption)⟩
 have n2_ : Y0 (Kd.R k30 30 ((w76.setCell ⟨g_0, 0, none⟩ (.int .i64 t_4)).setCell ⟨g_0, 1, none⟩ (.slice Ao81 t_2.length co81)) w.heap.size (fun k_ => some k_ ≠ (.slice Ao64 t_3.length co64 : Value).ownBlock ∧ some k_ ≠ (.slice Ao72 t_5.length co72 : Value).ownBlock ∧ some k_ ≠ (.slice Ao81 t_2.length co81 : Value).ownBlock) (.slice Ao54 y1167.length co54) y1167) := ⟨by (with_reducible repeat (first | apply Kd.R_alloc | apply Kd.R_drewN | apply Kd.R_drew)); exact Kd.R_mono (Kd.R_far (p := ⟨g_0, 1, none⟩) (Kd.R_far (p := ⟨g_0, 0, none⟩) (Kd.R_types O_3.out B_3.out (by decide)) (fun _ hk => hk.2) (.int .i64 t_4)) (fun _ hk => hk.2) (.slice Ao81 t_2.length co81)) (fun _ hk => by revert hk; simp only [and_imp]; intros; (repeat' apply And.intro) <;> assumption)⟩
 have n3_ : Y0 (Kd.R (Kd.int .u8) 5 ((w76.setCell ⟨g_0, 0, none⟩ (.int .i64 t_4)).setCell ⟨g_0, 1, none⟩ (.slice Ao81 t_2.length co81)) w.heap.size (fun k_ => some k_ ≠ (.slice Ao48 t_1.length co48 : Value).ownBlock ∧ some k_ ≠ (.slice Ao58 t_0.length co58 : Value).ownBlock) (.slice Ao59 t_7.length co59) t_7) := ⟨by (with_reducible repeat (first | apply Kd.R_alloc | apply Kd.R_drewN | apply Kd.R_drew)); exact Kd.R_mono (Kd.R_far (p := ⟨g_0, 1, none⟩) (Kd.R_far (p := ⟨g_0, 0, none⟩) (Kd.R_types O_2.out B_3.out (by decide)) (fun _ hk => hk.2) (.int .i64 t_4)) (fun _ hk => hk.2) (.slice Ao81 t_2.length co81)) (fun _ hk => by revert hk; simp only [and_imp]; intros; (repeat' apply And.intro) <;> assumption)⟩
 have n4_ : Y0 (Kd.R k30 30 ((w76.setCell ⟨g_0, 0, none⟩ (.int .i64 t_4)).setCell ⟨g_0, 1, none⟩ (.slice Ao81 t_2.length co81)) w.heap.size (fun k_ => some k_ ≠ (.slice Ao54 y1167.length co54 : Value).ownBlock ∧ some k_ ≠ (.slice Ao72 t_5.length co72 : Value).ownBlock ∧ some k_ ≠ (.slice Ao81 t_2.length co81 : Value).ownBlock) (.slice Ao64 t_3.length co64) t_3) := ⟨by (with_reducible repeat (first | apply Kd.R_alloc | apply Kd.R_drewN | apply Kd.R_drew)); exact Kd.R_mono (Kd.R_far (p := ⟨g_0, 1, none⟩) (Kd.R_far (p := ⟨g_0, 0, none⟩) (Kd.R_types O_4.out B_3.out (by decide)) (fun _ hk => hk.2) (.int .i64 t_4)) (fun _ hk => hk.2) (.slice Ao81 t_2.length co81)) (fun _ hk => by revert hk; simp only [and_imp]; intros; (repeat' apply And.intro) <;> assumption)⟩
 have n5_ : Y0 (Kd.R k30 30 ((w76.setCell ⟨g_0, 0, none⟩ (.int .i64 t_4)).setCell ⟨g_0, 1, none⟩ (.slice Ao81 t_2.length co81)) w.heap.size (fun k_ => some k_ ≠ (.slice Ao54 y1167.length co54 : Value).ownBlock ∧ some k_ ≠ (.slice Ao64 t_3.length co64 : Value).ownBlock ∧ some k_ ≠ (.slice Ao81 t_2.length co81 : Value).ownBlock) (.slice Ao72 t_5.length co72) t_5) := ⟨by (with_reducible repeat (first | apply Kd.R_alloc | apply Kd.R_drewN | apply Kd.R_drew)); exact Kd.R_mono (Kd.R_far (p := ⟨g_0, 1, none⟩) (Kd.R_far (p := ⟨g_0, 0, none⟩) (Kd.R_types O_5.out B_3.out (by decide)) (fun _ hk => hk.2) (.int .i64 t_4)) (fun _ hk => hk.2) (.slice Ao81 t_2.length co81)) (fun _ hk => by revert hk; simp only [and_imp]; intros; (repeat' apply And.intro) <;> assumption)⟩
 have n6_ : Y0 (Kd.R k30 30 ((w76.setCell ⟨g_0, 0, none⟩ (.int .i64 t_4)).setCell ⟨g_0, 1, none⟩ (.slice Ao81 t_2.length co81)) w.heap.size (fun k_ => some k_ ≠ (.slice Ao54 y1167.length co54 : Value).ownBlock ∧ some k_ ≠ (.slice Ao64 t_3.length co64 : Value).ownBlock ∧ some k_ ≠ (.slice Ao72 t_5.length co72 : Value).ownBlock) (.slice Ao81 t_2.length co81) t_2) := ⟨by (with_reducible repeat (first | apply Kd.R_alloc | apply Kd.R_drewN | apply Kd.R_drew)); exact Kd.R_mono (Kd.R_far (p := ⟨g_0, 1, none⟩) (Kd.R_far (p := ⟨g_0, 0, none⟩) (Kd.R_types O_6.out B_3.out (by decide)) (fun _ hk => hk.2) (.int .i64 t_4)) (fun _ hk => hk.2) (.slice Ao81 t_2.length co81)) (fun _ hk => by revert hk; simp only [and_imp]; intros; (repeat' apply And.intro) <;> assumption)⟩
 have n7_ : Y0 (((w76.setCell ⟨g_0, 0, none⟩ (.int .i64 t_4)).setCell ⟨g_0, 1, none⟩ (.slice Ao81 t_2.length co81)).heap[g_1]? = some (.cells #[.int .i64 2, .slice Ao54 y1167.length co54] 24 (0, 0))) := ⟨by (with_reducible repeat (first | refine Yh ?_ _ | refine Yd ?_ | refine Yc ?_ _)); refine (Below.heap_setCell _ ⟨_, _, none⟩ _ _ N_2.out).trans ?_; (with_reducible repeat (first | refine Yh ?_ _ | refine Yd ?_ | refine Yc ?_ _)); refine (Below.heap_setCell _ ⟨_, _, none⟩ _ _ N_2.out).trans ?_; (with_reducible repeat (first | refine Yh ?_ _ | refine Yd ?_ | refine Yc ?_ _)); exact B_0.out⟩
 have n8_ : Y0 (((w76.setCell ⟨g_0, 0, none⟩ (.int .i64 t_4)).setCell ⟨g_0, 1, none⟩ (.slice Ao81 t_2.length co81)).heap[g_3]? = some (.cells #[.int .i64 t_8, .slice Ao64 t_3.length co64] 24 (0, 0))) := ⟨by (with_reducible repeat (first | refine Yh ?_ _ | refine Yd ?_ | refine Yc ?_ _)); refine (Below.heap_setCell _ ⟨_, _, none⟩ _ _ N_0.out).trans ?_; (with_reducible repeat (first | refine Yh ?_ _ | refine Yd ?_ | refine Yc ?_ _)); refine (Below.heap_setCell _ ⟨_, _, none⟩ _ _ N_0.out).trans ?_; (with_reducible repeat (first | refine Yh ?_ _ | refine Yd ?_ | refine Yc ?_ _)); exact B_1.out⟩
 have n9_ : Y0 (((w76.setCell ⟨g_0, 0, none⟩ (.int .i64 t_4)).setCell ⟨g_0, 1, none⟩ (.slice Ao81 t_2.length co81)).heap[g_2]? = some (.cells #[.int .i64 t_9, .slice Ao72 t_5.length co72] 24 (0, 0))) := ⟨by (with_reducible repeat (first | refine Yh ?_ _ | refine Yd ?_ | refine Yc ?_ _)); refine (Below.heap_setCell _ ⟨_, _, none⟩ _ _ N_5.out).trans ?_; (with_reducible repeat (first | refine Yh ?_ _ | refine Yd ?_ | refine Yc ?_ _)); refine (Below.heap_setCell _ ⟨_, _, none⟩ _ _ N_5.out).trans ?_; (with_reducible repeat (first | refine Yh ?_ _ | refine Yd ?_ | refine Yc ?_ _)); exact B_2.out⟩
 have n10_ : Y0 (((w76.setCell ⟨g_0, 0, none⟩ (.int .i64 t_4)).setCell ⟨g_0, 1, none⟩ (.slice Ao81 t_2.length co81)).heap[g_0]? = some (.cells #[.int .i64 t_4, .slice Ao81 t_2.length co81] 24 (0, 0))) := ⟨by (with_reducible repeat (first | refine Yh ?_ _ | refine Yd ?_ | refine Yc ?_ _)); refine Yw (cs := #[.int .i64 t_4, .slice none 0 0]) ?_ 1 _ rfl; (with_reducible repeat (first | refine Yh ?_ _ | refine Yd ?_ | refine Yc ?_ _)); refine Yw (cs := #[.int .i64 0, .slice none 0 0]) ?_ 0 _ rfl; (with_reducible repeat (first | refine Yh ?_ _ | refine Yd ?_ | refine Yc ?_ _)); exact B_3.out⟩
 have n11_ : Y0 (Below w.heap.size w ((w76.setCell ⟨g_0, 0, none⟩ (.int .i64 t_4)).setCell ⟨g_0, 1, none⟩ (.slice Ao81 t_2.length co81))) := ⟨hU HB.out⟩
 (try clear O_1)
 (try clear O_0)
 (try clear O_3)
 (try clear O_2)
 (try clear O_4)
 (try clear O_5)
 (try clear O_6)
 (try clear B_0)
 (try clear B_1)
 (try clear B_2)
 (try clear B_3)
 (try clear HB)
 generalize ((w76.setCell ⟨g_0, 0, none⟩ (.int .i64 t_4)).setCell ⟨g_0, 1, none⟩ (.slice Ao81 t_2.length co81)) = w82 at n0_ n1_ n2_ n3_ n4_ n5_ n6_ n7_ n8_ n9_ n10_ n11_ ⊢
 have O_1 := n0_
 have O_0 := n1_
 have O_3 := n2_
 have O_2 := n3_
 have O_4 := n4_
 have O_5 := n5_
 have O_6 := n6_
 have B_0 := n7_
 have B_1 := n8_
 have B_2 := n9_
 have B_3 := n10_
 have HB := n11_
 clear n0_ n1_ n2_ n3_ n4_ n5_ n6_ n7_ n8_ n9_ n10_ n11_
 have n0_ := Y0.mk (Kd.R_drew O_1.out)
 have n1_ := Y0.mk (Kd.R_drew O_0.out)
 have n2_ := Y0.mk (Kd.R_drew O_3.out)
 have n3_ := Y0.mk (Kd.R_drew O_2.out)
 have n4_ := Y0.mk (Kd.R_drew O_4.out)
 have n5_ := Y0.mk (Kd.R_drew O_5.out)
 have n6_ := Y0.mk (Kd.R_drew O_6.out)
 have n7_ := Y0.mk (Yd B_0.out)
 have n8_ := Y0.mk (Yd B_1.out)
 have n9_ := Y0.mk (Yd B_2.out)
 have n10_ := Y0.mk (Yd B_3.out)
 have n11_ := Y0.mk (YC HB.out)
 clear O_1
 clear O_0
 clear O_3
 clear O_2
 clear O_4
 clear O_5
 clear O_6
 clear B_0
 clear B_1
 clear B_2
 clear B_3
 clear HB
 have O_1 := n0_
 have O_0 := n1_
 have O_3 := n2_
 have O_2 := n3_
 have O_4 := n4_
 have O_5 := n5_
 have O_6 := n6_
 have B_0 := n7_
 have B_1 := n8_
 have B_2 := n9_
 have B_3 := n10_
 have HB := n11_
 clear n0_ n1_ n2_ n3_ n4_ n5_ n6_ n7_ n8_ n9_ n10_ n11_
 refine Y1w (n := 47) (S := fun w' => w'.cell? ⟨g_3, 0, none⟩ = some (.int .i64 t_8) ∧ w'.cell? ⟨g_3, 1, none⟩ = some (.slice Ao64 t_3.length co64) ∧ w'.cell? ⟨g_1, 0, none⟩ = some (.int .i64 2) ∧ w'.cell? ⟨g_1, 1, none⟩ = some (.slice Ao54 y1167.length co54) ∧ w'.cell? ⟨g_2, 0, none⟩ = some (.int .i64 t_9) ∧ w'.cell? ⟨g_2, 1, none⟩ = some (.slice Ao72 t_5.length co72) ∧ w'.cell? ⟨g_0, 0, none⟩ = some (.int .i64 t_4) ∧ w'.cell? ⟨g_0, 1, none⟩ = some (.slice Ao81 t_2.length co81)) (ds := []) #[false, false, false, false, false, false, false, false, false, false, false, false, false, false, false, false, false, false, false, false, false, false, false, false, false, false, false, false, false, false, false, false, false, false, false, false, false, false, false, false, false, false, false, false, false, false, false] (by kernel_rfl) rfl rfl ⟨(Y1 B_1.out 0).trans rfl, (Y1 B_1.out 1).trans rfl, (Y1 B_0.out 0).trans rfl, (Y1 B_0.out 1).trans rfl, (Y1 B_2.out 0).trans rfl, (Y1 B_2.out 1).trans rfl, (Y1 B_3.out 0).trans rfl, (Y1 B_3.out 1).trans rfl⟩ (fun hHeld => ?_); refine Y1q Yv.tab10 Yv.bits10 (fun HT_ HW_ => ?_)
 generalize w82.drew = w83 at O_1 O_0 O_3 O_2 O_4 O_5 O_6 B_0 B_1 B_2 B_3 HB hHeld ⊢
 refine puA 0 88 (bs 47 1) ?_
 refine puA 1 89 (bs 47 3) ?_
 refine puA 2 90 (bs 47 7) ?_
 refine puA 3 91 (bs 47 15) ?_
 refine puA 4 92 (bs 47 31) ?_
 refine puA 5 93 (bs 47 63) ?_
 refine puA 6 94 (bs 47 127) ?_
 refine puA 7 95 (bs 47 255) ?_
 refine puA 8 96 (bs 47 511) ?_
 refine puA 9 97 (bs 47 1023) ?_
 refine puA 10 98 (bs 47 2047) ?_
 refine tkA 11 99 (bs 47 4095) hHeld ?_
 refine tkA 12 100 (bs 47 8191) hHeld ?_
 refine one_ (i := 13) (N := some 101) (bs 47 16383) rfl rfl (Y1N HT_.out (by kernel_rfl)) (by decide) (fun K hK => ?_)
 refine goes_ Try.func43 (by kernel_rfl) rfl #[.agg #[.int .i64 t_8, .slice Ao64 t_3.length co64], .agg #[.int .i64 2, .slice Ao54 y1167.length co54]] (by rfl) rfl rfl (by (try simp only [List.map_toArray, List.map_cons, List.map_nil]); first | done | rfl | (simp only [List.length_drop, List.length_take]; rfl)) ?_
 with_reducible refine (Yu.calls k t_8 _ _ t_3 2 _ _ y1167 true _ ?side1 ?side2 ?side3 ?side4 A26.out).mono ?_
 (case side1 => repeat (first | exact (Kd.R_reads' O_4.out).2.2 | (with_reducible refine Kd.C_alloc ?_ _) | (with_reducible refine Kd.C_drewN ?_ _) | (with_reducible refine Kd.C_drew ?_)))
 (case side2 => exact (Kd.R_reads' O_4.out).2.1)
 (case side3 => repeat (first | exact (Kd.R_reads' O_3.out).2.2 | (with_reducible refine Kd.C_alloc ?_ _) | (with_reducible refine Kd.C_drewN ?_ _) | (with_reducible refine Kd.C_drew ?_)))
 (case side4 => exact (Kd.R_reads' O_3.out).2.1)
 rintro e w84 ⟨rfl, hb⟩
 refine ⟨_, rfl, ?_⟩
 replace O_1 := Y0.mk (Kd.R_below (Kd.rU O_1.out) hb)
 replace O_0 := Y0.mk (Kd.R_below (Kd.rU O_0.out) hb)
 replace O_3 := Y0.mk (Kd.R_below (Kd.rU O_3.out) hb)
 replace O_2 := Y0.mk (Kd.R_below (Kd.rU O_2.out) hb)
 replace O_4 := Y0.mk (Kd.R_below (Kd.rU O_4.out) hb)
 replace O_5 := Y0.mk (Kd.R_below (Kd.rU O_5.out) hb)
 replace O_6 := Y0.mk (Kd.R_below (Kd.rU O_6.out) hb)
 replace B_0 := Y0.mk (Y6 (bU B_0.out) hb)
 replace B_1 := Y0.mk (Y6 (bU B_1.out) hb)
 replace B_2 := Y0.mk (Y6 (bU B_2.out) hb)
 replace B_3 := Y0.mk (Y6 (bU B_3.out) hb)
 replace HB := Y0.mk (Y4 (hU HB.out) hb)
 (try clear hb)
 (try clear hb2)
 (try clear hk)
 (try clear hi)
 have q85 : (1 : Int) ≤ ((y1167.length : Int) : Int) := of_decide_eq_true (by first | (with_reducible assumption) | assumption)
 obtain ⟨i085, hi085, _, hsz85, _⟩ := info_parts Y2m
 have hroom85 : y1167.length ≤ co54 := (Kd.R_reads' O_3.out).2.1
 have hC85 : Kd.C k30 _ Ao54 y1167.length y1167 := (Kd.R_reads' O_3.out).2.2
 have hcut85 := Y5U (P := Try.prog) 22 30 .i64 Try.underlying22 hi085 Ao54 y1167.length co54 1 (by omega) q85 hroom85
 have hr85 := Kd.C_take (m := 1) hC85 (by omega)
 have hy85 : y1206.length = (1 : Int).toNat := (by rw [Ny1206.out, List.length_take]; omega)
 rw [← Ny1206.out] at hr85
 rw [← hy85] at hcut85
 have HR1209 := Y0.mk hr85
 have HC1209 := Y0.mk (show y1206.length ≤ co54 from by omega)
 clear hr85 hC85 hroom85 hi085 hsz85
 have KY85 := Y0.mk hy85
 clear hy85
 have KL85 := Y0.mk (show 1 ≤ y1167.length from by omega)
 replace q85 := eq_true q85
 refine hK.out _ _ ⟨(Y1 B_1.out 0).trans rfl, (Y1 B_1.out 1).trans rfl, (Y1 B_0.out 0).trans rfl, (Y1 B_0.out 1).trans rfl, (Y1 B_2.out 0).trans rfl, (Y1 B_2.out 1).trans rfl, (Y1 B_3.out 0).trans rfl, (Y1 B_3.out 1).trans rfl⟩ (fun hHeld => ?_)
 clear hK K
 refine nmA 101 ?_
 refine puA 14 102 (bs 47 32767) ?_
 refine puA 15 103 (bs 47 65535) ?_
 refine puA 16 104 (bs 47 131071) ?_
 refine puA 17 105 (bs 47 262143) ?_
 refine puA 18 106 (bs 47 524287) ?_
 refine puA 19 107 (bs 47 1048575) ?_
 refine puA 20 108 (bs 47 2097151) ?_
 refine puA 21 109 (bs 47 4194303) ?_
 refine puA 22 110 (bs 47 8388607) ?_
 refine puA 24 112 (bs 47 25165823) ?_
 refine tkA 23 111 (bs 47 33554431) hHeld ?_
 refine tkA 25 113 (bs 47 67108863) hHeld ?_
 refine puA 26 114 (bs 47 134217727) ?_
 refine puA 27 115 (bs 47 268435455) ?_
 refine one_ (i := 28) (N := some 116) (bs 47 536870911) rfl rfl (Y1N HT_.out (by kernel_rfl)) (by decide) (fun K hK => ?_)
 refine goes_ Try.func43 (by kernel_rfl) rfl #[.agg #[.int .i64 t_9, .slice Ao72 t_5.length co72], .agg #[.int .i64 2, .slice Ao54 y1206.length co54]] (by rfl) rfl rfl (by (try simp only [List.map_toArray, List.map_cons, List.map_nil]); first | done | rfl | (simp only [List.length_drop, List.length_take]; rfl)) ?_
 with_reducible refine (Yu.calls k t_9 _ _ t_5 2 _ _ y1206 true _ ?side1 ?side2 ?side3 ?side4 A30.out).mono ?_
 (case side1 => repeat (first | exact (Kd.R_reads' O_5.out).2.2 | (with_reducible refine Kd.C_alloc ?_ _) | (with_reducible refine Kd.C_drewN ?_ _) | (with_reducible refine Kd.C_drew ?_)))
 (case side2 => exact (Kd.R_reads' O_5.out).2.1)
 (case side3 => repeat (first | exact (by repeat (first | (with_reducible exact HR1209.out) | (with_reducible refine Kd.C_alloc ?_ _) | (with_reducible refine Kd.C_drewN ?_ _) | (with_reducible refine Kd.C_drew ?_) | exact HR1209.out)) | (with_reducible refine Kd.C_alloc ?_ _) | (with_reducible refine Kd.C_drewN ?_ _) | (with_reducible refine Kd.C_drew ?_)))
 (case side4 => exact HC1209.out)
 rintro e w86 ⟨rfl, hb⟩
 refine ⟨_, rfl, ?_⟩
 replace O_1 := Y0.mk (Kd.R_below (Kd.rU O_1.out) hb)
 replace O_0 := Y0.mk (Kd.R_below (Kd.rU O_0.out) hb)
 replace O_3 := Y0.mk (Kd.R_below (Kd.rU O_3.out) hb)
 replace O_2 := Y0.mk (Kd.R_below (Kd.rU O_2.out) hb)
 replace O_4 := Y0.mk (Kd.R_below (Kd.rU O_4.out) hb)
 replace O_5 := Y0.mk (Kd.R_below (Kd.rU O_5.out) hb)
 replace O_6 := Y0.mk (Kd.R_below (Kd.rU O_6.out) hb)
 replace B_0 := Y0.mk (Y6 (bU B_0.out) hb)
 replace B_1 := Y0.mk (Y6 (bU B_1.out) hb)
 replace B_2 := Y0.mk (Y6 (bU B_2.out) hb)
 replace B_3 := Y0.mk (Y6 (bU B_3.out) hb)
 replace HR1209 := Y0.mk (Kd.C_below (by repeat (first | (with_reducible exact HR1209.out) | (with_reducible refine Kd.C_alloc ?_ _) | (with_reducible refine Kd.C_drewN ?_ _) | (with_reducible refine Kd.C_drew ?_) | exact HR1209.out)) hb)
 replace HB := Y0.mk (Y4 (hU HB.out) hb)
 (try clear hb)
 (try clear hb2)
 (try clear hk)
 (try clear hi)
 refine hK.out _ _ ⟨(Y1 B_1.out 0).trans rfl, (Y1 B_1.out 1).trans rfl, (Y1 B_0.out 0).trans rfl, (Y1 B_0.out 1).trans rfl, (Y1 B_2.out 0).trans rfl, (Y1 B_2.out 1).trans rfl, (Y1 B_3.out 0).trans rfl, (Y1 B_3.out 1).trans rfl⟩ (fun hHeld => ?_)
 clear hK K
 refine nmA 116 ?_
 refine puA 29 117 (bs 47 1073741823) ?_
 refine puA 30 118 (bs 47 2147483647) ?_
 refine puA 31 119 (bs 47 4294967295) ?_
 refine puA 32 120 (bs 47 8589934591) ?_
 refine puA 33 121 (bs 47 17179869183) ?_
 refine puA 34 122 (bs 47 34359738367) ?_
 refine puA 35 123 (bs 47 68719476735) ?_
 refine puA 36 124 (bs 47 137438953471) ?_
 refine puA 37 125 (bs 47 274877906943) ?_
 refine puA 38 126 (bs 47 549755813887) ?_
 refine tkA 39 127 (bs 47 1099511627775) hHeld ?_
 refine puA 40 128 (bs 47 2199023255551) ?_
 refine puA 41 129 (bs 47 4398046511103) ?_
 refine puA 42 130 (bs 47 8796093022207) ?_
 refine puA 43 131 (bs 47 17592186044415) ?_
 refine puA 44 132 (bs 47 35184372088831) ?_
 refine puA 45 133 (bs 47 70368744177663) ?_
 refine puA 46 134 (bs 47 140737488355327) ?_
 refine done_ (Y1G HT_.out (by kernel_rfl)) ?_
 try go_wp2_with (first | ((with_reducible refine Y8 (f := 80) rfl ?_); refine goesA (some 136) Try.func80 #[.int .i64 1, .int .i64 24] ?_; (with_reducible refine (YA.calls 1 24 t_1y t_14 t_v t_l t_u t_1m t_p t_1b t_w t_1u t_24 t_15 t_25 _ A35.out).mono ?_); rintro e w87 ⟨rfl, hb⟩; refine ⟨_, rfl, ?_⟩; replace O_1 := Y0.mk (Kd.R_below (Kd.rU O_1.out) hb); replace O_0 := Y0.mk (Kd.R_below (Kd.rU O_0.out) hb); replace O_2 := Y0.mk (Kd.R_below (Kd.rU O_2.out) hb); replace HB := Y0.mk (Y4 (hU HB.out) hb); (try clear hb); (try clear hb2); (try clear hk); (try clear hi)) | ((with_reducible refine Y8 (f := 80) rfl ?_); refine goesA (some 137) Try.func80 #[.int .i64 2, .int .i64 12] ?_; (with_reducible refine (YA.calls 2 12 t_e t_10 t_1z t_22 t_h t_11 t_1j t_y t_f t_18 t_r t_1f t_20 _ A36.out).mono ?_); rintro e w88 ⟨rfl, hb⟩; refine ⟨_, rfl, ?_⟩; replace O_1 := Y0.mk (Kd.R_below (Kd.rU O_1.out) hb); replace O_0 := Y0.mk (Kd.R_below (Kd.rU O_0.out) hb); replace O_2 := Y0.mk (Kd.R_below (Kd.rU O_2.out) hb); replace HB := Y0.mk (Y4 (hU HB.out) hb); (try clear hb); (try clear hb2); (try clear hk); (try clear hi)) | ((with_reducible refine Y8 (f := 81) rfl ?_); refine goesA (some 138) Try.func81 #[] ?_; (with_reducible refine (YE.calls  t_21 t_t t_19 t_s t_17 t_i t_1d t_1l t_1x t_1p t_z t_k t_n _ A37.out).mono ?_); rintro e w89 ⟨rfl, hb⟩; refine ⟨_, rfl, ?_⟩; replace O_1 := Y0.mk (Kd.R_below (Kd.rU O_1.out) hb); replace O_0 := Y0.mk (Kd.R_below (Kd.rU O_0.out) hb); replace O_2 := Y0.mk (Kd.R_below (Kd.rU O_2.out) hb); replace HB := Y0.mk (Y4 (hU HB.out) hb); (try clear hb); (try clear hb2); (try clear hk); (try clear hi)) | ((with_reducible refine Yl (N := 139) rfl ?_); (try (refine Y1F (by rfl) ?_; dsimp only)); refine Kd.R_lit k30 _ 30 ?hg (N := 139) ?hd (xs := ([(⟨(⟨t_1y, t_14⟩ : S26), t_v, (⟨t_l, t_u⟩ : S26), t_1m, (⟨t_p, t_1b, t_w, t_1u, t_24, t_15, t_25⟩ : S28)⟩ : S30), (⟨(⟨t_e, t_10⟩ : S26), t_1z, (⟨t_22, t_h⟩ : S26), t_11, (⟨t_1j, t_y, t_f, t_18, t_r, t_1f, t_20⟩ : S28)⟩ : S30), (⟨(⟨t_21, t_t⟩ : S26), t_19, (⟨t_s, t_17⟩ : S26), t_i, (⟨t_1d, t_1l, t_1x, t_1p, t_z, t_k, t_n⟩ : S28)⟩ : S30)] : List (S30))) (inner := [.int .i64 t_1y, .int .i64 t_14, .int .i64 t_v, .int .i64 t_l, .int .i64 t_u, .bool t_1m, .int .i64 t_p, .int .i64 t_1b, .int .i64 t_w, .int .i64 t_1u, .int .i64 t_24, .int .i64 t_15, .int .i64 t_25, .int .i64 t_e, .int .i64 t_10, .int .i64 t_1z, .int .i64 t_22, .int .i64 t_h, .bool t_11, .int .i64 t_1j, .int .i64 t_y, .int .i64 t_f, .int .i64 t_18, .int .i64 t_r, .int .i64 t_1f, .int .i64 t_20, .int .i64 t_21, .int .i64 t_t, .int .i64 t_19, .int .i64 t_s, .int .i64 t_17, .bool t_i, .int .i64 t_1d, .int .i64 t_1l, .int .i64 t_1x, .int .i64 t_1p, .int .i64 t_z, .int .i64 t_k, .int .i64 t_n]) (ok := fun _ => True) (okp := fun _ => True) ?hr ?hp (fun _ hk => hk) trivial (Below.refl _ _) (Nat.le_refl _) (by simp) ?_; (case hd => rfl); (case hg => rfl); (case hr => first | (go_simp; done) | (go_simp; rfl)); (case hp => exact (Reps.front (show Kd.M k30 _ _ _ (⟨(⟨t_1y, t_14⟩ : S26), t_v, (⟨t_l, t_u⟩ : S26), t_1m, (⟨t_p, t_1b, t_w, t_1u, t_24, t_15, t_25⟩ : S28)⟩ : S30) [.int .i64 t_1y, .int .i64 t_14, .int .i64 t_v, .int .i64 t_l, .int .i64 t_u, .bool t_1m, .int .i64 t_p, .int .i64 t_1b, .int .i64 t_w, .int .i64 t_1u, .int .i64 t_24, .int .i64 t_15, .int .i64 t_25] from (Y1V _ _ _ (⟨(⟨t_1y, t_14⟩ : S26), t_v, (⟨t_l, t_u⟩ : S26), t_1m, (⟨t_p, t_1b, t_w, t_1u, t_24, t_15, t_25⟩ : S28)⟩ : S30) )) rfl (Reps.front (show Kd.M k30 _ _ _ (⟨(⟨t_e, t_10⟩ : S26), t_1z, (⟨t_22, t_h⟩ : S26), t_11, (⟨t_1j, t_y, t_f, t_18, t_r, t_1f, t_20⟩ : S28)⟩ : S30) [.int .i64 t_e, .int .i64 t_10, .int .i64 t_1z, .int .i64 t_22, .int .i64 t_h, .bool t_11, .int .i64 t_1j, .int .i64 t_y, .int .i64 t_f, .int .i64 t_18, .int .i64 t_r, .int .i64 t_1f, .int .i64 t_20] from (Y1V _ _ _ (⟨(⟨t_e, t_10⟩ : S26), t_1z, (⟨t_22, t_h⟩ : S26), t_11, (⟨t_1j, t_y, t_f, t_18, t_r, t_1f, t_20⟩ : S28)⟩ : S30) )) rfl (Reps.front (show Kd.M k30 _ _ _ (⟨(⟨t_21, t_t⟩ : S26), t_19, (⟨t_s, t_17⟩ : S26), t_i, (⟨t_1d, t_1l, t_1x, t_1p, t_z, t_k, t_n⟩ : S28)⟩ : S30) [.int .i64 t_21, .int .i64 t_t, .int .i64 t_19, .int .i64 t_s, .int .i64 t_17, .bool t_i, .int .i64 t_1d, .int .i64 t_1l, .int .i64 t_1x, .int .i64 t_1p, .int .i64 t_z, .int .i64 t_k, .int .i64 t_n] from (Y1V _ _ _ (⟨(⟨t_21, t_t⟩ : S26), t_19, (⟨t_s, t_17⟩ : S26), t_i, (⟨t_1d, t_1l, t_1x, t_1p, t_z, t_k, t_n⟩ : S28)⟩ : S30) )) rfl (Reps.none _ _) rfl) rfl) rfl)); intro v_2 w90 ho91 hb hg_ hnew_; clear hg_ hnew_; (first | rw [← Ny1250.out] at ho91 | (simp only [Int.reduceToNat] at ho91; rw [← Ny1250.out] at ho91)); have n0_ := Y0.mk (Kd.R_below (Kd.rU O_1.out) hb); have n1_ := Y0.mk (Kd.R_below (Kd.rU O_0.out) hb); have n2_ := Y0.mk (Kd.R_below (Kd.rU O_2.out) hb); have n3_ := Y0.mk (Kd.R_lower ho91 (Yi (hU HB.out))); have n4_ := Y0.mk (Y4 (hU HB.out) hb); clear O_1; clear O_0; clear O_2; clear HB; have O_1 := n0_; have O_0 := n1_; have O_2 := n2_; have O_8 := n3_; have HB := n4_; clear n0_ n1_ n2_ n3_ n4_; clear hb ho91; obtain ⟨Ao92, co92, eo92⟩ := Kd.R_slice O_8.out; subst eo92) | ((with_reducible refine Y8 (f := 46) rfl ?_); refine goesA (some 141) Try.func46 #[.agg #[.int .i64 2, .slice Ao92 y1250.length co92]] ?_; (with_reducible refine (YX.calls k 2 _ _ y1250 t_33 t_3c _ ?side1 ?side2 A38.out).mono ?_); (case side1 => repeat (first | exact (Kd.R_reads' O_8.out).2.2 | (with_reducible refine Kd.C_alloc ?_ _) | (with_reducible refine Kd.C_drewN ?_ _) | (with_reducible refine Kd.C_drew ?_))); (case side2 => exact (Kd.R_reads' O_8.out).2.1); rintro e w93 ⟨v_7, rfl, ho0, hb⟩; refine ⟨_, rfl, ?_⟩; replace O_8 := Y0.mk (Kd.R_below (Kd.rU O_8.out) hb); replace O_7 := Y0.mk (Kd.R_lower (Kd.R_new' (Kd.R_new' (Kd.R_new' ho0 (Kd.R_lt (Kd.rU O_1.out))) (Kd.R_lt (Kd.rU O_0.out))) (Kd.R_lt (Kd.rU O_2.out))) (Yi (hU HB.out))); replace O_1 := Y0.mk (Kd.R_elder' (Kd.rU O_1.out) (Kd.R_base ho0) hb); replace O_0 := Y0.mk (Kd.R_elder' (Kd.rU O_0.out) (Kd.R_base ho0) hb); replace O_2 := Y0.mk (Kd.R_elder' (Kd.rU O_2.out) (Kd.R_base ho0) hb); replace HB := Y0.mk (Y4 (hU HB.out) hb); (try clear hb); (try clear hb2); (try clear hk); (try clear hi); (try clear ho0)) | ((with_reducible refine Y8 (f := 41) rfl ?_); refine goesA (some 145) Try.func41 #[.int .i64 0, .slice none 0 0] ?_; (refine (Yy.calls k 0 _ _ ([] : List Int) t_37 t_36 t_3a t_2o _ ?side1 ?side2 A39.out).mono ?_); (case side1 => exact Kd.C_nil _ _); (case side2 => exact Nat.le_refl _); rintro e w94 ⟨v_0, rfl, ho0, hb⟩; refine ⟨_, rfl, ?_⟩; replace O_1 := Y0.mk (Kd.R_below (Kd.rU O_1.out) hb); replace O_0 := Y0.mk (Kd.R_below (Kd.rU O_0.out) hb); replace O_2 := Y0.mk (Kd.R_below (Kd.rU O_2.out) hb); replace O_7 := Y0.mk (Kd.R_below (Kd.rU O_7.out) hb); replace O_a := Y0.mk (Kd.R_lower ho0 (Yi (hU HB.out))); replace HB := Y0.mk (Y4 (hU HB.out) hb); (try clear hb); (try clear hb2); (try clear hk); (try clear hi); (try clear ho0)) | ((with_reducible refine Y8 (f := 38) rfl ?_); refine goesA (some 151) Try.func38 #[.slice none 0 0, .agg #[.int .i64 0, .int .i64 0, .int .i64 0, .int .i64 0, .int .i64 0, .bool false, .int .i64 0, .int .i64 0, .int .i64 0, .int .i64 0, .int .i64 0, .int .i64 0, .int .i64 0]] ?_; (refine (YD.calls k _ _ ([] : List Int) 0 0 0 0 0 false 0 0 0 0 0 0 0 t_39 t_31 _ ?side1 ?side2 A40.out).mono ?_); (case side1 => exact Kd.C_nil _ _); (case side2 => exact Nat.le_refl _); rintro e w95 ⟨v_9, rfl, ho0, hb⟩; refine ⟨_, rfl, ?_⟩; replace O_9 := Y0.mk (Kd.R_lower (Kd.R_new' (Kd.R_new' (Kd.R_new' (Kd.R_new' ho0 (Kd.R_lt (Kd.rU O_1.out))) (Kd.R_lt (Kd.rU O_0.out))) (Kd.R_lt (Kd.rU O_2.out))) (Kd.R_lt (Kd.rU O_7.out))) (Yi (hU HB.out))); replace O_1 := Y0.mk (Kd.R_elder' (Kd.rU O_1.out) (Kd.R_base ho0) hb); replace O_0 := Y0.mk (Kd.R_elder' (Kd.rU O_0.out) (Kd.R_base ho0) hb); replace O_2 := Y0.mk (Kd.R_elder' (Kd.rU O_2.out) (Kd.R_base ho0) hb); replace O_7 := Y0.mk (Kd.R_elder' (Kd.rU O_7.out) (Kd.R_base ho0) hb); replace HB := Y0.mk (Y4 (hU HB.out) hb); (try clear hb); (try clear hb2); (try clear hk); (try clear hi); (try clear ho0); obtain ⟨Ao96, co96, eo96⟩ := Kd.R_slice O_7.out; subst eo96) | (go_at_call 40; (with_reducible refine (YG.calls _ _ t_33 _ _ t_0 true _ ?side1 ?side2 ?side3 ?side4 A42.out).mono ?_); (case side1 => repeat (first | exact (Kd.R_reads' O_7.out).2.2 | (with_reducible refine Kd.C_alloc ?_ _) | (with_reducible refine Kd.C_drewN ?_ _) | (with_reducible refine Kd.C_drew ?_))); (case side2 => exact (Kd.R_reads' O_7.out).2.1); (case side3 => repeat (first | exact (Kd.R_reads' O_0.out).2.2 | (with_reducible refine Kd.C_alloc ?_ _) | (with_reducible refine Kd.C_drewN ?_ _) | (with_reducible refine Kd.C_drew ?_))); (case side4 => exact (Kd.R_reads' O_0.out).2.1); rintro e w' ⟨rfl, ⟨nd, rfl⟩⟩))
 go_ret
 exact ⟨by first | rfl | (simp [Y1f, Y1g] <;> rfl) | (simp only [← hji16]; first | rfl | (simp [Y1f, Y1g] <;> rfl)) | (simp [*, Y1f, Y1g] <;> rfl), hU HB.out⟩
end Go.Proofs.Yteopkkoblbmggaa.P
end

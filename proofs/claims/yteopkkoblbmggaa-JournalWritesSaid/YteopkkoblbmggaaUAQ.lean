/- Texts of this claim in one: VP65; no condition. -/
import Derived.Test.YteopkkoblbmggaaUAD
import Derived.Test.YteopkkoblbmggaaUAH
import Derived.Test.YteopkkoblbmggaaUAI
import Derived.Test.YteopkkoblbmggaaUAK
import Derived.Test.YteopkkoblbmggaaUAP
section
namespace Go.Proofs.Yteopkkoblbmggaa.P
open Go.RowKit Go.Proofs.YteopkkoblbmggaaW.PrintWords Go.Proofs.YteopkkoblbmggaaW.PrintLast Go.Proofs.YteopkkoblbmggaaW.PrintMore
attribute [local go_sem] max2_int min2_int max_two min_two max_three min_three max_four min_four
set_option linter.unusedVariables false
set_option linter.unusedSimpArgs false
/-! ### dancestudiolaw58_awake: function 37 -/
def dancestudiolaw58_awake.f (k : Nat)  : Option (Bool) := (dancestudiolaw58_hold.f 1 24).bind fun bt1107 => ((journal_Append.f k ([] : List Int) bt1107.1 bt1107.2.1 bt1107.2.2.1 bt1107.2.2.2.1 bt1107.2.2.2.2.1 bt1107.2.2.2.2.2.1 bt1107.2.2.2.2.2.2.1 bt1107.2.2.2.2.2.2.2.1 bt1107.2.2.2.2.2.2.2.2.1 bt1107.2.2.2.2.2.2.2.2.2.1 bt1107.2.2.2.2.2.2.2.2.2.2.1 bt1107.2.2.2.2.2.2.2.2.2.2.2.1 bt1107.2.2.2.2.2.2.2.2.2.2.2.2).bind fun bt1120 => ((dancestudiolaw58_drop.f).bind fun bt1124 => ((journal_Append.f k bt1120.1 bt1124.1 bt1124.2.1 bt1124.2.2.1 bt1124.2.2.2.1 bt1124.2.2.2.2.1 bt1124.2.2.2.2.2.1 bt1124.2.2.2.2.2.2.1 bt1124.2.2.2.2.2.2.2.1 bt1124.2.2.2.2.2.2.2.2.1 bt1124.2.2.2.2.2.2.2.2.2.1 bt1124.2.2.2.2.2.2.2.2.2.2.1 bt1124.2.2.2.2.2.2.2.2.2.2.2.1 bt1124.2.2.2.2.2.2.2.2.2.2.2.2).bind fun bt1137 => ((dancestudiolaw58_hold.f 1 24).bind fun bt1141 => ((dancestudiolaw58_drop.f).bind fun bt1154 => ((some (([(⟨(⟨bt1141.1, bt1141.2.1⟩ : S26), bt1141.2.2.1, (⟨bt1141.2.2.2.1, bt1141.2.2.2.2.1⟩ : S26), bt1141.2.2.2.2.2.1, (⟨bt1141.2.2.2.2.2.2.1, bt1141.2.2.2.2.2.2.2.1, bt1141.2.2.2.2.2.2.2.2.1, bt1141.2.2.2.2.2.2.2.2.2.1, bt1141.2.2.2.2.2.2.2.2.2.2.1, bt1141.2.2.2.2.2.2.2.2.2.2.2.1, bt1141.2.2.2.2.2.2.2.2.2.2.2.2⟩ : S28)⟩ : S30), (⟨(⟨bt1154.1, bt1154.2.1⟩ : S26), bt1154.2.2.1, (⟨bt1154.2.2.2.1, bt1154.2.2.2.2.1⟩ : S26), bt1154.2.2.2.2.2.1, (⟨bt1154.2.2.2.2.2.2.1, bt1154.2.2.2.2.2.2.2.1, bt1154.2.2.2.2.2.2.2.2.1, bt1154.2.2.2.2.2.2.2.2.2.1, bt1154.2.2.2.2.2.2.2.2.2.2.1, bt1154.2.2.2.2.2.2.2.2.2.2.2.1, bt1154.2.2.2.2.2.2.2.2.2.2.2.2⟩ : S28)⟩ : S30)] : List (S30)) : List (S30))).bind fun y1167 => ((journal_Write.f k 2 y1167).bind fun bt1171 => (if bt1120.2 = 0 then (if bt1137.2 = 0 then (if bt1171.2 = 0 then (if (bt1120.1.length : Int) = 0 then (none) else (if (bt1137.1.length : Int) ≤ (bt1120.1.length : Int) then (none) else ((dancestudioref58_Bytes.f bt1171.1 bt1137.1).bind fun t1175 => (if t1175 = true then ((journal_Recover.f k 2 bt1137.1).bind fun bt1176 => (if 0 ≤ (wrap64 ((bt1137.1.length : Int) - 1)) then (if (wrap64 ((bt1137.1.length : Int) - 1)) ≤ (bt1137.1.length : Int) then ((journal_Recover.f k 2 (bt1137.1.take ((wrap64 ((bt1137.1.length : Int) - 1)) : Int).toNat)).bind fun bt1187 => (if 0 ≤ (bt1120.1.length : Int) then (if (bt1120.1.length : Int) ≤ (bt1137.1.length : Int) then ((journal_Recover.f k 2 (bt1137.1.drop ((bt1120.1.length : Int) : Int).toNat)).bind fun bt1198 => (if bt1176.2.2.2 = 0 then (if bt1187.2.2.2 = 0 then (if bt1198.2.2.2 = 0 then ((dancestudioref58_Same.f k bt1176.1 bt1176.2.1 2 y1167).bind fun t1205 => (if t1205 = true then (if bt1176.2.2.1 = (bt1137.1.length : Int) then (if 1 ≤ (y1167.length : Int) then ((dancestudioref58_Same.f k bt1187.1 bt1187.2.1 2 (y1167.take 1)).bind fun t1210 => (if t1210 = true then (if bt1187.2.2.1 = (bt1120.1.length : Int) then (if (bt1198.2.1.length : Int) = 0 then (if bt1198.2.2.1 = 0 then ((dancestudiolaw58_hold.f 1 24).bind fun bt1211 => ((dancestudiolaw58_hold.f 2 12).bind fun bt1224 => ((dancestudiolaw58_drop.f).bind fun bt1237 => ((journal_Compact.f k 2 (([(⟨(⟨bt1211.1, bt1211.2.1⟩ : S26), bt1211.2.2.1, (⟨bt1211.2.2.2.1, bt1211.2.2.2.2.1⟩ : S26), bt1211.2.2.2.2.2.1, (⟨bt1211.2.2.2.2.2.2.1, bt1211.2.2.2.2.2.2.2.1, bt1211.2.2.2.2.2.2.2.2.1, bt1211.2.2.2.2.2.2.2.2.2.1, bt1211.2.2.2.2.2.2.2.2.2.2.1, bt1211.2.2.2.2.2.2.2.2.2.2.2.1, bt1211.2.2.2.2.2.2.2.2.2.2.2.2⟩ : S28)⟩ : S30), (⟨(⟨bt1224.1, bt1224.2.1⟩ : S26), bt1224.2.2.1, (⟨bt1224.2.2.2.1, bt1224.2.2.2.2.1⟩ : S26), bt1224.2.2.2.2.2.1, (⟨bt1224.2.2.2.2.2.2.1, bt1224.2.2.2.2.2.2.2.1, bt1224.2.2.2.2.2.2.2.2.1, bt1224.2.2.2.2.2.2.2.2.2.1, bt1224.2.2.2.2.2.2.2.2.2.2.1, bt1224.2.2.2.2.2.2.2.2.2.2.2.1, bt1224.2.2.2.2.2.2.2.2.2.2.2.2⟩ : S28)⟩ : S30), (⟨(⟨bt1237.1, bt1237.2.1⟩ : S26), bt1237.2.2.1, (⟨bt1237.2.2.2.1, bt1237.2.2.2.2.1⟩ : S26), bt1237.2.2.2.2.2.1, (⟨bt1237.2.2.2.2.2.2.1, bt1237.2.2.2.2.2.2.2.1, bt1237.2.2.2.2.2.2.2.2.1, bt1237.2.2.2.2.2.2.2.2.2.1, bt1237.2.2.2.2.2.2.2.2.2.2.1, bt1237.2.2.2.2.2.2.2.2.2.2.2.1, bt1237.2.2.2.2.2.2.2.2.2.2.2.2⟩ : S28)⟩ : S30)] : List (S30)))).bind fun bt1253 => ((journal_Recover.f k 0 ([] : List Int)).bind fun bt1257 => ((journal_Append.f k ([] : List Int) 0 0 0 0 0 false 0 0 0 0 0 0 0).bind fun bt1263 => (if bt1253.2 = 0 then ((dancestudioref58_Bytes.f bt1253.1 bt1137.1).bind fun t1267 => (if t1267 = true then (if bt1257.2.2.2 = 43 then (some (bt1263.2 == 43)) else (none)) else (none))) else (none)))))))) else (none)) else (none)) else (none)) else (none))) else (none)) else (none)) else (none))) else (none)) else (none)) else (none))) else (none)) else (none))) else (none)) else (none))) else (none))))) else (none)) else (none)) else (none)))))))))
theorem dancestudiolaw58_awake.mono : ∀ k, LeO (dancestudiolaw58_awake.f k ) (dancestudiolaw58_awake.f (k + 1) ) := by
 intro  k
 unfold dancestudiolaw58_awake.f
 repeat' first
   | (with_reducible exact dancestudioref58_Same.mono _ _ _ _ _)
   | (with_reducible exact journal_Append.mono _ _ _ _ _ _ _ _ _ _ _ _ _ _ _)
   | (with_reducible exact journal_Compact.mono _ _ _)
   | (with_reducible exact journal_Recover.mono _ _ _)
   | (with_reducible exact journal_Write.mono _ _ _)
   | (with_reducible exact LeO.refl _)
   | (with_reducible exact LeO.none _)
   | (with_reducible refine LeO.ite ?_ ?_)
   | (with_reducible refine LeO.bind ?_ (fun _ => ?_))
   | exact dancestudioref58_Same.mono _ _ _ _ _
   | exact journal_Append.mono _ _ _ _ _ _ _ _ _ _ _ _ _ _ _
   | exact journal_Compact.mono _ _ _
   | exact journal_Recover.mono _ _ _
   | exact journal_Write.mono _ _ _
   | exact LeO.none _
   | refine LeO.ite ?_ ?_
   | refine LeO.bind ?_ (fun _ => ?_)
def dancestudiolaw58_awake.T10 : Bool × List (List Nat × List Nat) := (true, [([], []), ([0], [0]), ([1], [1]), ([2], [2]), ([3, 2], [2, 3]), ([2, 4], [2, 4]), ([5, 2], [5]), ([6], [6]), ([7, 6], [6, 7]), ([6, 8], [6, 8]), ([9, 6], [9]), ([10], [10]), ([10], [10]), ([11, 12, 10, 10], [10, 11, 12]), ([13, 10], [10, 13]), ([10, 14], [10, 14]), ([15, 13], [15]), ([16], [16]), ([16], [16]), ([18, 16], [16, 18]), ([17, 19, 16], [16, 17, 19]), ([16, 20], [16, 20]), ([21, 16], [21]), ([22], [22]), ([22], [22]), ([24, 22], [22, 24]), ([25, 22], [22, 25]), ([26, 22], [22, 26]), ([23, 27, 22, 22], [22, 23, 27]), ([28, 22], [22, 28]), ([22, 29], [22, 29]), ([30, 28], [30]), ([31], [31]), ([31], [31]), ([33, 31], [31, 33]), ([32, 34, 31], [31, 32, 34]), ([31, 35], [31, 35]), ([36, 31], [36]), ([37], [37]), ([38, 37], [37, 38]), ([39, 37], [37, 39]), ([40, 37], [37, 40]), ([37, 41], [37, 41]), ([42, 37], [42]), ([43], [43]), ([44, 43], [43, 44]), ([43, 45], [43, 45])])
def dancestudiolaw58_awake.B10 : List Nat := [0, 1, 3, 7, 15, 31, 63, 127, 255, 511, 1023, 2047, 2047, 8191, 16383, 32767, 65535, 131071, 131071, 393215, 1048575, 2097151, 4194303, 8388607, 8388607, 25165823, 58720255, 125829119, 268435455, 536870911, 1073741823, 2147483647, 4294967295, 4294967295, 12884901887, 34359738367, 68719476735, 137438953471, 274877906943, 549755813887, 1099511627775, 2199023255551, 4398046511103, 8796093022207, 17592186044415, 35184372088831, 70368744177663]
theorem dancestudiolaw58_awake.tab10 : rtab .any (opsOf Try.f37 10) = dancestudiolaw58_awake.T10 := by kernel_rfl
theorem dancestudiolaw58_awake.bits10 : waitsOk dancestudiolaw58_awake.T10.2 dancestudiolaw58_awake.B10 = true := by kernel_rfl
set_option maxHeartbeats 8000000 in
set_option maxRecDepth 100000 in
theorem dancestudiolaw58_awake.calls (k : Nat)  (r : Bool) (w : World) (h : dancestudiolaw58_awake.f k  = some r) :
  Calls Try.prog 37 #[] w fun e w' => e = .returned (.bool r) ∧ Below w.heap.size w w' := by
 have hu24 := Try.underlying24
 have hu30 := Try.underlying30
 have HB := Aside0.mk (Below.refl w.heap.size w)
 have H : ((dancestudiolaw58_hold.f 1 24).bind fun bt1107 => ((journal_Append.f k ([] : List Int) bt1107.1 bt1107.2.1 bt1107.2.2.1 bt1107.2.2.2.1 bt1107.2.2.2.2.1 bt1107.2.2.2.2.2.1 bt1107.2.2.2.2.2.2.1 bt1107.2.2.2.2.2.2.2.1 bt1107.2.2.2.2.2.2.2.2.1 bt1107.2.2.2.2.2.2.2.2.2.1 bt1107.2.2.2.2.2.2.2.2.2.2.1 bt1107.2.2.2.2.2.2.2.2.2.2.2.1 bt1107.2.2.2.2.2.2.2.2.2.2.2.2).bind fun bt1120 => ((dancestudiolaw58_drop.f).bind fun bt1124 => ((journal_Append.f k bt1120.1 bt1124.1 bt1124.2.1 bt1124.2.2.1 bt1124.2.2.2.1 bt1124.2.2.2.2.1 bt1124.2.2.2.2.2.1 bt1124.2.2.2.2.2.2.1 bt1124.2.2.2.2.2.2.2.1 bt1124.2.2.2.2.2.2.2.2.1 bt1124.2.2.2.2.2.2.2.2.2.1 bt1124.2.2.2.2.2.2.2.2.2.2.1 bt1124.2.2.2.2.2.2.2.2.2.2.2.1 bt1124.2.2.2.2.2.2.2.2.2.2.2.2).bind fun bt1137 => ((dancestudiolaw58_hold.f 1 24).bind fun bt1141 => ((dancestudiolaw58_drop.f).bind fun bt1154 => ((some (([(⟨(⟨bt1141.1, bt1141.2.1⟩ : S26), bt1141.2.2.1, (⟨bt1141.2.2.2.1, bt1141.2.2.2.2.1⟩ : S26), bt1141.2.2.2.2.2.1, (⟨bt1141.2.2.2.2.2.2.1, bt1141.2.2.2.2.2.2.2.1, bt1141.2.2.2.2.2.2.2.2.1, bt1141.2.2.2.2.2.2.2.2.2.1, bt1141.2.2.2.2.2.2.2.2.2.2.1, bt1141.2.2.2.2.2.2.2.2.2.2.2.1, bt1141.2.2.2.2.2.2.2.2.2.2.2.2⟩ : S28)⟩ : S30), (⟨(⟨bt1154.1, bt1154.2.1⟩ : S26), bt1154.2.2.1, (⟨bt1154.2.2.2.1, bt1154.2.2.2.2.1⟩ : S26), bt1154.2.2.2.2.2.1, (⟨bt1154.2.2.2.2.2.2.1, bt1154.2.2.2.2.2.2.2.1, bt1154.2.2.2.2.2.2.2.2.1, bt1154.2.2.2.2.2.2.2.2.2.1, bt1154.2.2.2.2.2.2.2.2.2.2.1, bt1154.2.2.2.2.2.2.2.2.2.2.2.1, bt1154.2.2.2.2.2.2.2.2.2.2.2.2⟩ : S28)⟩ : S30)] : List (S30)) : List (S30))).bind fun y1167 => ((journal_Write.f k 2 y1167).bind fun bt1171 => (if bt1120.2 = 0 then (if bt1137.2 = 0 then (if bt1171.2 = 0 then (if (bt1120.1.length : Int) = 0 then (none) else (if (bt1137.1.length : Int) ≤ (bt1120.1.length : Int) then (none) else ((dancestudioref58_Bytes.f bt1171.1 bt1137.1).bind fun t1175 => (if t1175 = true then ((journal_Recover.f k 2 bt1137.1).bind fun bt1176 => (if 0 ≤ (wrap64 ((bt1137.1.length : Int) - 1)) then (if (wrap64 ((bt1137.1.length : Int) - 1)) ≤ (bt1137.1.length : Int) then ((journal_Recover.f k 2 (bt1137.1.take ((wrap64 ((bt1137.1.length : Int) - 1)) : Int).toNat)).bind fun bt1187 => (if 0 ≤ (bt1120.1.length : Int) then (if (bt1120.1.length : Int) ≤ (bt1137.1.length : Int) then ((journal_Recover.f k 2 (bt1137.1.drop ((bt1120.1.length : Int) : Int).toNat)).bind fun bt1198 => (if bt1176.2.2.2 = 0 then (if bt1187.2.2.2 = 0 then (if bt1198.2.2.2 = 0 then ((dancestudioref58_Same.f k bt1176.1 bt1176.2.1 2 y1167).bind fun t1205 => (if t1205 = true then (if bt1176.2.2.1 = (bt1137.1.length : Int) then (if 1 ≤ (y1167.length : Int) then ((dancestudioref58_Same.f k bt1187.1 bt1187.2.1 2 (y1167.take 1)).bind fun t1210 => (if t1210 = true then (if bt1187.2.2.1 = (bt1120.1.length : Int) then (if (bt1198.2.1.length : Int) = 0 then (if bt1198.2.2.1 = 0 then ((dancestudiolaw58_hold.f 1 24).bind fun bt1211 => ((dancestudiolaw58_hold.f 2 12).bind fun bt1224 => ((dancestudiolaw58_drop.f).bind fun bt1237 => ((journal_Compact.f k 2 (([(⟨(⟨bt1211.1, bt1211.2.1⟩ : S26), bt1211.2.2.1, (⟨bt1211.2.2.2.1, bt1211.2.2.2.2.1⟩ : S26), bt1211.2.2.2.2.2.1, (⟨bt1211.2.2.2.2.2.2.1, bt1211.2.2.2.2.2.2.2.1, bt1211.2.2.2.2.2.2.2.2.1, bt1211.2.2.2.2.2.2.2.2.2.1, bt1211.2.2.2.2.2.2.2.2.2.2.1, bt1211.2.2.2.2.2.2.2.2.2.2.2.1, bt1211.2.2.2.2.2.2.2.2.2.2.2.2⟩ : S28)⟩ : S30), (⟨(⟨bt1224.1, bt1224.2.1⟩ : S26), bt1224.2.2.1, (⟨bt1224.2.2.2.1, bt1224.2.2.2.2.1⟩ : S26), bt1224.2.2.2.2.2.1, (⟨bt1224.2.2.2.2.2.2.1, bt1224.2.2.2.2.2.2.2.1, bt1224.2.2.2.2.2.2.2.2.1, bt1224.2.2.2.2.2.2.2.2.2.1, bt1224.2.2.2.2.2.2.2.2.2.2.1, bt1224.2.2.2.2.2.2.2.2.2.2.2.1, bt1224.2.2.2.2.2.2.2.2.2.2.2.2⟩ : S28)⟩ : S30), (⟨(⟨bt1237.1, bt1237.2.1⟩ : S26), bt1237.2.2.1, (⟨bt1237.2.2.2.1, bt1237.2.2.2.2.1⟩ : S26), bt1237.2.2.2.2.2.1, (⟨bt1237.2.2.2.2.2.2.1, bt1237.2.2.2.2.2.2.2.1, bt1237.2.2.2.2.2.2.2.2.1, bt1237.2.2.2.2.2.2.2.2.2.1, bt1237.2.2.2.2.2.2.2.2.2.2.1, bt1237.2.2.2.2.2.2.2.2.2.2.2.1, bt1237.2.2.2.2.2.2.2.2.2.2.2.2⟩ : S28)⟩ : S30)] : List (S30)))).bind fun bt1253 => ((journal_Recover.f k 0 ([] : List Int)).bind fun bt1257 => ((journal_Append.f k ([] : List Int) 0 0 0 0 0 false 0 0 0 0 0 0 0).bind fun bt1263 => (if bt1253.2 = 0 then ((dancestudioref58_Bytes.f bt1253.1 bt1137.1).bind fun t1267 => (if t1267 = true then (if bt1257.2.2.2 = 43 then (some (bt1263.2 == 43)) else (none)) else (none))) else (none)))))))) else (none)) else (none)) else (none)) else (none))) else (none)) else (none)) else (none))) else (none)) else (none)) else (none))) else (none)) else (none))) else (none)) else (none))) else (none))))) else (none)) else (none)) else (none)))))))))) = some r := h
 clear h
 replace H := Option.bind_eq_some_iff.mp H
 obtain ⟨⟨t1107, t1108, t1109, t1110, t1111, t1112, t1113, t1114, t1115, t1116, t1117, t1118, t1119⟩, A10, H⟩ := H
 try dsimp only at H
 have A1 := Aside0.mk A10
 clear A10
 replace H := Option.bind_eq_some_iff.mp H
 obtain ⟨⟨t1120, t1123⟩, A20, H⟩ := H
 try dsimp only at H
 have A2 := Aside0.mk A20
 clear A20
 replace H := Option.bind_eq_some_iff.mp H
 obtain ⟨⟨t1124, t1125, t1126, t1127, t1128, t1129, t1130, t1131, t1132, t1133, t1134, t1135, t1136⟩, A30, H⟩ := H
 try dsimp only at H
 have A3 := Aside0.mk A30
 clear A30
 replace H := Option.bind_eq_some_iff.mp H
 obtain ⟨⟨t1137, t1140⟩, A40, H⟩ := H
 try dsimp only at H
 have A4 := Aside0.mk A40
 clear A40
 replace H := Option.bind_eq_some_iff.mp H
 obtain ⟨⟨t1141, t1142, t1143, t1144, t1145, t1146, t1147, t1148, t1149, t1150, t1151, t1152, t1153⟩, A50, H⟩ := H
 try dsimp only at H
 have A5 := Aside0.mk A50
 clear A50
 replace H := Option.bind_eq_some_iff.mp H
 obtain ⟨⟨t1154, t1155, t1156, t1157, t1158, t1159, t1160, t1161, t1162, t1163, t1164, t1165, t1166⟩, A60, H⟩ := H
 try dsimp only at H
 have A6 := Aside0.mk A60
 clear A60
 obtain ⟨y1167, hy1167⟩ : ∃ y_ : List (S30), y_ = (([(⟨(⟨t1141, t1142⟩ : S26), t1143, (⟨t1144, t1145⟩ : S26), t1146, (⟨t1147, t1148, t1149, t1150, t1151, t1152, t1153⟩ : S28)⟩ : S30), (⟨(⟨t1154, t1155⟩ : S26), t1156, (⟨t1157, t1158⟩ : S26), t1159, (⟨t1160, t1161, t1162, t1163, t1164, t1165, t1166⟩ : S28)⟩ : S30)] : List (S30))) := ⟨_, rfl⟩
 replace H : ((journal_Write.f k 2 y1167).bind fun bt1171 => (if t1123 = 0 then (if t1140 = 0 then (if bt1171.2 = 0 then (if (t1120.length : Int) = 0 then (none) else (if (t1137.length : Int) ≤ (t1120.length : Int) then (none) else ((dancestudioref58_Bytes.f bt1171.1 t1137).bind fun t1175 => (if t1175 = true then ((journal_Recover.f k 2 t1137).bind fun bt1176 => (if 0 ≤ (wrap64 ((t1137.length : Int) - 1)) then (if (wrap64 ((t1137.length : Int) - 1)) ≤ (t1137.length : Int) then ((journal_Recover.f k 2 (t1137.take ((wrap64 ((t1137.length : Int) - 1)) : Int).toNat)).bind fun bt1187 => (if 0 ≤ (t1120.length : Int) then (if (t1120.length : Int) ≤ (t1137.length : Int) then ((journal_Recover.f k 2 (t1137.drop ((t1120.length : Int) : Int).toNat)).bind fun bt1198 => (if bt1176.2.2.2 = 0 then (if bt1187.2.2.2 = 0 then (if bt1198.2.2.2 = 0 then ((dancestudioref58_Same.f k bt1176.1 bt1176.2.1 2 y1167).bind fun t1205 => (if t1205 = true then (if bt1176.2.2.1 = (t1137.length : Int) then (if 1 ≤ (y1167.length : Int) then ((dancestudioref58_Same.f k bt1187.1 bt1187.2.1 2 (y1167.take 1)).bind fun t1210 => (if t1210 = true then (if bt1187.2.2.1 = (t1120.length : Int) then (if (bt1198.2.1.length : Int) = 0 then (if bt1198.2.2.1 = 0 then ((dancestudiolaw58_hold.f 1 24).bind fun bt1211 => ((dancestudiolaw58_hold.f 2 12).bind fun bt1224 => ((dancestudiolaw58_drop.f).bind fun bt1237 => ((journal_Compact.f k 2 (([(⟨(⟨bt1211.1, bt1211.2.1⟩ : S26), bt1211.2.2.1, (⟨bt1211.2.2.2.1, bt1211.2.2.2.2.1⟩ : S26), bt1211.2.2.2.2.2.1, (⟨bt1211.2.2.2.2.2.2.1, bt1211.2.2.2.2.2.2.2.1, bt1211.2.2.2.2.2.2.2.2.1, bt1211.2.2.2.2.2.2.2.2.2.1, bt1211.2.2.2.2.2.2.2.2.2.2.1, bt1211.2.2.2.2.2.2.2.2.2.2.2.1, bt1211.2.2.2.2.2.2.2.2.2.2.2.2⟩ : S28)⟩ : S30), (⟨(⟨bt1224.1, bt1224.2.1⟩ : S26), bt1224.2.2.1, (⟨bt1224.2.2.2.1, bt1224.2.2.2.2.1⟩ : S26), bt1224.2.2.2.2.2.1, (⟨bt1224.2.2.2.2.2.2.1, bt1224.2.2.2.2.2.2.2.1, bt1224.2.2.2.2.2.2.2.2.1, bt1224.2.2.2.2.2.2.2.2.2.1, bt1224.2.2.2.2.2.2.2.2.2.2.1, bt1224.2.2.2.2.2.2.2.2.2.2.2.1, bt1224.2.2.2.2.2.2.2.2.2.2.2.2⟩ : S28)⟩ : S30), (⟨(⟨bt1237.1, bt1237.2.1⟩ : S26), bt1237.2.2.1, (⟨bt1237.2.2.2.1, bt1237.2.2.2.2.1⟩ : S26), bt1237.2.2.2.2.2.1, (⟨bt1237.2.2.2.2.2.2.1, bt1237.2.2.2.2.2.2.2.1, bt1237.2.2.2.2.2.2.2.2.1, bt1237.2.2.2.2.2.2.2.2.2.1, bt1237.2.2.2.2.2.2.2.2.2.2.1, bt1237.2.2.2.2.2.2.2.2.2.2.2.1, bt1237.2.2.2.2.2.2.2.2.2.2.2.2⟩ : S28)⟩ : S30)] : List (S30)))).bind fun bt1253 => ((journal_Recover.f k 0 ([] : List Int)).bind fun bt1257 => ((journal_Append.f k ([] : List Int) 0 0 0 0 0 false 0 0 0 0 0 0 0).bind fun bt1263 => (if bt1253.2 = 0 then ((dancestudioref58_Bytes.f bt1253.1 t1137).bind fun t1267 => (if t1267 = true then (if bt1257.2.2.2 = 43 then (some (bt1263.2 == 43)) else (none)) else (none))) else (none)))))))) else (none)) else (none)) else (none)) else (none))) else (none)) else (none)) else (none))) else (none)) else (none)) else (none))) else (none)) else (none))) else (none)) else (none))) else (none))))) else (none)) else (none)) else (none))) = some r := by first | (rw [hy1167]; with_reducible exact H) | (have H2_ := (Option.bind_some _ _).symm.trans H; rw [hy1167]; with_reducible exact H2_) | (have H2_ := (Option.bind_some _ _).symm.trans H; with_reducible exact H2_) | with_reducible exact H | (rw [hy1167]; exact H) | exact H
 have Ny1167 := Aside0.mk hy1167
 clear hy1167
 replace H := Option.bind_eq_some_iff.mp H
 obtain ⟨⟨t1171, t1174⟩, A70, H⟩ := H
 try dsimp only at H
 have A7 := Aside0.mk A70
 clear A70
 by_cases c8 : t1123 = 0
 rotate_left
 ·rw [if_neg c8] at H
  exact absurd H (by simp)

 rw [if_pos c8] at H
 have c8b0 : (t1123 == 0) = true := beq_iff_eq.mpr c8
 have c8b1 : (t1123 != 0) = false := bne_eq_false_iff_eq.mpr c8
 clear c8
 by_cases c9 : t1140 = 0
 rotate_left
 ·rw [if_neg c9] at H
  exact absurd H (by simp)
 rw [if_pos c9] at H
 have c9b0 : (t1140 == 0) = true := beq_iff_eq.mpr c9
 have c9b1 : (t1140 != 0) = false := bne_eq_false_iff_eq.mpr c9
 clear c9
 by_cases c10 : t1174 = 0
 rotate_left
 ·rw [if_neg c10] at H
  exact absurd H (by simp)
 rw [if_pos c10] at H
 have c10b0 : (t1174 == 0) = true := beq_iff_eq.mpr c10
 have c10b1 : (t1174 != 0) = false := bne_eq_false_iff_eq.mpr c10
 clear c10
 by_cases c11 : (t1120.length : Int) = 0
 ·rw [if_pos c11] at H
  exact absurd H (by simp)
 rw [if_neg c11] at H
 have c11b0 : ((t1120.length : Int) == 0) = false := beq_eq_false_iff_ne.mpr c11
 have c11b1 : ((t1120.length : Int) != 0) = true := bne_iff_ne.mpr c11
 have c11b2 : ¬ (t1120 = []) := fun h_ => c11 (by rw [h_]; rfl)
 by_cases c12 : (t1137.length : Int) ≤ (t1120.length : Int)
 ·rw [if_pos c12] at H
  exact absurd H (by simp)
 rw [if_neg c12] at H
 have c12b0 : decide ((t1137.length : Int) ≤ (t1120.length : Int)) = false := decide_eq_false c12
 have c12b1 : decide (t1137.length ≤ t1120.length) = false := decide_eq_false (fun h => c12 (Int.ofNat_le.mpr h))
 clear c12
 replace H := Option.bind_eq_some_iff.mp H
 obtain ⟨t1175, A130, H⟩ := H
 try dsimp only at H
 have A13 := Aside0.mk A130
 clear A130
 by_cases c14 : t1175 = true
 rotate_left
 ·replace c14 := Bool.eq_false_iff.mpr c14
  subst c14
  have H1 : (none) = some r := by rw [if_neg (show ¬ (false = true) by decide)] at H; exact H
  clear H
  have H := H1
  clear H1
  exact absurd H (by simp)
 subst c14
 rw [if_pos rfl] at H
 replace H := Option.bind_eq_some_iff.mp H
 obtain ⟨⟨t1176, t1177, t1180, t1181⟩, A150, H⟩ := H
 try dsimp only at H
 have A15 := Aside0.mk A150
 clear A150
 obtain ⟨ji16, hji16⟩ : ∃ j_ : Int, (wrap64 ((t1137.length : Int) - 1)) = j_ := ⟨_, rfl⟩
 replace H : (if 0 ≤ (ji16) then (if (ji16) ≤ (t1137.length : Int) then ((journal_Recover.f k 2 (t1137.take ((ji16) : Int).toNat)).bind fun bt1187 => (if 0 ≤ (t1120.length : Int) then (if (t1120.length : Int) ≤ (t1137.length : Int) then ((journal_Recover.f k 2 (t1137.drop ((t1120.length : Int) : Int).toNat)).bind fun bt1198 => (if t1181 = 0 then (if bt1187.2.2.2 = 0 then (if bt1198.2.2.2 = 0 then ((dancestudioref58_Same.f k t1176 t1177 2 y1167).bind fun t1205 => (if t1205 = true then (if t1180 = (t1137.length : Int) then (if 1 ≤ (y1167.length : Int) then ((dancestudioref58_Same.f k bt1187.1 bt1187.2.1 2 (y1167.take 1)).bind fun t1210 => (if t1210 = true then (if bt1187.2.2.1 = (t1120.length : Int) then (if (bt1198.2.1.length : Int) = 0 then (if bt1198.2.2.1 = 0 then ((dancestudiolaw58_hold.f 1 24).bind fun bt1211 => ((dancestudiolaw58_hold.f 2 12).bind fun bt1224 => ((dancestudiolaw58_drop.f).bind fun bt1237 => ((journal_Compact.f k 2 (([(⟨(⟨bt1211.1, bt1211.2.1⟩ : S26), bt1211.2.2.1, (⟨bt1211.2.2.2.1, bt1211.2.2.2.2.1⟩ : S26), bt1211.2.2.2.2.2.1, (⟨bt1211.2.2.2.2.2.2.1, bt1211.2.2.2.2.2.2.2.1, bt1211.2.2.2.2.2.2.2.2.1, bt1211.2.2.2.2.2.2.2.2.2.1, bt1211.2.2.2.2.2.2.2.2.2.2.1, bt1211.2.2.2.2.2.2.2.2.2.2.2.1, bt1211.2.2.2.2.2.2.2.2.2.2.2.2⟩ : S28)⟩ : S30), (⟨(⟨bt1224.1, bt1224.2.1⟩ : S26), bt1224.2.2.1, (⟨bt1224.2.2.2.1, bt1224.2.2.2.2.1⟩ : S26), bt1224.2.2.2.2.2.1, (⟨bt1224.2.2.2.2.2.2.1, bt1224.2.2.2.2.2.2.2.1, bt1224.2.2.2.2.2.2.2.2.1, bt1224.2.2.2.2.2.2.2.2.2.1, bt1224.2.2.2.2.2.2.2.2.2.2.1, bt1224.2.2.2.2.2.2.2.2.2.2.2.1, bt1224.2.2.2.2.2.2.2.2.2.2.2.2⟩ : S28)⟩ : S30), (⟨(⟨bt1237.1, bt1237.2.1⟩ : S26), bt1237.2.2.1, (⟨bt1237.2.2.2.1, bt1237.2.2.2.2.1⟩ : S26), bt1237.2.2.2.2.2.1, (⟨bt1237.2.2.2.2.2.2.1, bt1237.2.2.2.2.2.2.2.1, bt1237.2.2.2.2.2.2.2.2.1, bt1237.2.2.2.2.2.2.2.2.2.1, bt1237.2.2.2.2.2.2.2.2.2.2.1, bt1237.2.2.2.2.2.2.2.2.2.2.2.1, bt1237.2.2.2.2.2.2.2.2.2.2.2.2⟩ : S28)⟩ : S30)] : List (S30)))).bind fun bt1253 => ((journal_Recover.f k 0 ([] : List Int)).bind fun bt1257 => ((journal_Append.f k ([] : List Int) 0 0 0 0 0 false 0 0 0 0 0 0 0).bind fun bt1263 => (if bt1253.2 = 0 then ((dancestudioref58_Bytes.f bt1253.1 t1137).bind fun t1267 => (if t1267 = true then (if bt1257.2.2.2 = 43 then (some (bt1263.2 == 43)) else (none)) else (none))) else (none)))))))) else (none)) else (none)) else (none)) else (none))) else (none)) else (none)) else (none))) else (none)) else (none)) else (none))) else (none)) else (none))) else (none)) else (none)) = some r := by first | (rw [hji16] at H; exact H) | (simp only [hji16] at H ⊢; exact H)
 (try rw [hji16] at A1)
 (try rw [hji16] at A2)
 (try rw [hji16] at A3)
 (try rw [hji16] at A4)
 (try rw [hji16] at A5)
 (try rw [hji16] at A6)
 (try rw [hji16] at A7)
 (try rw [hji16] at A13)
 (try rw [hji16] at A15)
 have hji16w : (IntKind.i64.wrap ((t1137.length : Int) - 1)) = ji16 := (i64_w _).trans hji16
 by_cases c17 : 0 ≤ (ji16)
 rotate_left
 ·rw [if_neg c17] at H
  exact absurd H (by simp)
 rw [if_pos c17] at H
 have c17b0 := eq_true c17
 have c17b1 : decide (0 ≤ (ji16)) = true := decide_eq_true c17
 clear c17
 by_cases c18 : (ji16) ≤ (t1137.length : Int)
 rotate_left
 ·rw [if_neg c18] at H
  exact absurd H (by simp)
 rw [if_pos c18] at H
 have c18b0 := eq_true c18
 have c18b1 : decide ((ji16) ≤ (t1137.length : Int)) = true := decide_eq_true c18
 clear c18
 obtain ⟨y1183, hy1183⟩ : ∃ y_ : List Int, y_ = (t1137.take ((ji16) : Int).toNat) := ⟨_, rfl⟩
 replace H : ((journal_Recover.f k 2 y1183).bind fun bt1187 => (if 0 ≤ (t1120.length : Int) then (if (t1120.length : Int) ≤ (t1137.length : Int) then ((journal_Recover.f k 2 (t1137.drop ((t1120.length : Int) : Int).toNat)).bind fun bt1198 => (if t1181 = 0 then (if bt1187.2.2.2 = 0 then (if bt1198.2.2.2 = 0 then ((dancestudioref58_Same.f k t1176 t1177 2 y1167).bind fun t1205 => (if t1205 = true then (if t1180 = (t1137.length : Int) then (if 1 ≤ (y1167.length : Int) then ((dancestudioref58_Same.f k bt1187.1 bt1187.2.1 2 (y1167.take 1)).bind fun t1210 => (if t1210 = true then (if bt1187.2.2.1 = (t1120.length : Int) then (if (bt1198.2.1.length : Int) = 0 then (if bt1198.2.2.1 = 0 then ((dancestudiolaw58_hold.f 1 24).bind fun bt1211 => ((dancestudiolaw58_hold.f 2 12).bind fun bt1224 => ((dancestudiolaw58_drop.f).bind fun bt1237 => ((journal_Compact.f k 2 (([(⟨(⟨bt1211.1, bt1211.2.1⟩ : S26), bt1211.2.2.1, (⟨bt1211.2.2.2.1, bt1211.2.2.2.2.1⟩ : S26), bt1211.2.2.2.2.2.1, (⟨bt1211.2.2.2.2.2.2.1, bt1211.2.2.2.2.2.2.2.1, bt1211.2.2.2.2.2.2.2.2.1, bt1211.2.2.2.2.2.2.2.2.2.1, bt1211.2.2.2.2.2.2.2.2.2.2.1, bt1211.2.2.2.2.2.2.2.2.2.2.2.1, bt1211.2.2.2.2.2.2.2.2.2.2.2.2⟩ : S28)⟩ : S30), (⟨(⟨bt1224.1, bt1224.2.1⟩ : S26), bt1224.2.2.1, (⟨bt1224.2.2.2.1, bt1224.2.2.2.2.1⟩ : S26), bt1224.2.2.2.2.2.1, (⟨bt1224.2.2.2.2.2.2.1, bt1224.2.2.2.2.2.2.2.1, bt1224.2.2.2.2.2.2.2.2.1, bt1224.2.2.2.2.2.2.2.2.2.1, bt1224.2.2.2.2.2.2.2.2.2.2.1, bt1224.2.2.2.2.2.2.2.2.2.2.2.1, bt1224.2.2.2.2.2.2.2.2.2.2.2.2⟩ : S28)⟩ : S30), (⟨(⟨bt1237.1, bt1237.2.1⟩ : S26), bt1237.2.2.1, (⟨bt1237.2.2.2.1, bt1237.2.2.2.2.1⟩ : S26), bt1237.2.2.2.2.2.1, (⟨bt1237.2.2.2.2.2.2.1, bt1237.2.2.2.2.2.2.2.1, bt1237.2.2.2.2.2.2.2.2.1, bt1237.2.2.2.2.2.2.2.2.2.1, bt1237.2.2.2.2.2.2.2.2.2.2.1, bt1237.2.2.2.2.2.2.2.2.2.2.2.1, bt1237.2.2.2.2.2.2.2.2.2.2.2.2⟩ : S28)⟩ : S30)] : List (S30)))).bind fun bt1253 => ((journal_Recover.f k 0 ([] : List Int)).bind fun bt1257 => ((journal_Append.f k ([] : List Int) 0 0 0 0 0 false 0 0 0 0 0 0 0).bind fun bt1263 => (if bt1253.2 = 0 then ((dancestudioref58_Bytes.f bt1253.1 t1137).bind fun t1267 => (if t1267 = true then (if bt1257.2.2.2 = 43 then (some (bt1263.2 == 43)) else (none)) else (none))) else (none)))))))) else (none)) else (none)) else (none)) else (none))) else (none)) else (none)) else (none))) else (none)) else (none)) else (none))) else (none)) else (none))) = some r := by first | (rw [hy1183]; with_reducible exact H) | (have H2_ := (Option.bind_some _ _).symm.trans H; rw [hy1183]; with_reducible exact H2_) | (have H2_ := (Option.bind_some _ _).symm.trans H; with_reducible exact H2_) | with_reducible exact H | (rw [hy1183]; exact H) | exact H
 have Ny1183 := Aside0.mk hy1183
 clear hy1183
 replace H := Option.bind_eq_some_iff.mp H
 obtain ⟨⟨t1187, t1188, t1191, t1192⟩, A190, H⟩ := H
 try dsimp only at H
 have A19 := Aside0.mk A190
 clear A190
 by_cases c20 : 0 ≤ (t1120.length : Int)
 rotate_left
 ·rw [if_neg c20] at H
  exact absurd H (by simp)
 rw [if_pos c20] at H
 have c20b0 := eq_true c20
 have c20b1 : decide (0 ≤ (t1120.length : Int)) = true := decide_eq_true c20
 clear c20
 by_cases c21 : (t1120.length : Int) ≤ (t1137.length : Int)
 rotate_left
 ·rw [if_neg c21] at H
  exact absurd H (by simp)
 rw [if_pos c21] at H
 have c21b0 := eq_true c21
 have c21b1 : decide ((t1120.length : Int) ≤ (t1137.length : Int)) = true := decide_eq_true c21
 clear c21
 obtain ⟨y1194, hy1194⟩ : ∃ y_ : List Int, y_ = (t1137.drop ((t1120.length : Int) : Int).toNat) := ⟨_, rfl⟩
 replace H : ((journal_Recover.f k 2 y1194).bind fun bt1198 => (if t1181 = 0 then (if t1192 = 0 then (if bt1198.2.2.2 = 0 then ((dancestudioref58_Same.f k t1176 t1177 2 y1167).bind fun t1205 => (if t1205 = true then (if t1180 = (t1137.length : Int) then (if 1 ≤ (y1167.length : Int) then ((dancestudioref58_Same.f k t1187 t1188 2 (y1167.take 1)).bind fun t1210 => (if t1210 = true then (if t1191 = (t1120.length : Int) then (if (bt1198.2.1.length : Int) = 0 then (if bt1198.2.2.1 = 0 then ((dancestudiolaw58_hold.f 1 24).bind fun bt1211 => ((dancestudiolaw58_hold.f 2 12).bind fun bt1224 => ((dancestudiolaw58_drop.f).bind fun bt1237 => ((journal_Compact.f k 2 (([(⟨(⟨bt1211.1, bt1211.2.1⟩ : S26), bt1211.2.2.1, (⟨bt1211.2.2.2.1, bt1211.2.2.2.2.1⟩ : S26), bt1211.2.2.2.2.2.1, (⟨bt1211.2.2.2.2.2.2.1, bt1211.2.2.2.2.2.2.2.1, bt1211.2.2.2.2.2.2.2.2.1, bt1211.2.2.2.2.2.2.2.2.2.1, bt1211.2.2.2.2.2.2.2.2.2.2.1, bt1211.2.2.2.2.2.2.2.2.2.2.2.1, bt1211.2.2.2.2.2.2.2.2.2.2.2.2⟩ : S28)⟩ : S30), (⟨(⟨bt1224.1, bt1224.2.1⟩ : S26), bt1224.2.2.1, (⟨bt1224.2.2.2.1, bt1224.2.2.2.2.1⟩ : S26), bt1224.2.2.2.2.2.1, (⟨bt1224.2.2.2.2.2.2.1, bt1224.2.2.2.2.2.2.2.1, bt1224.2.2.2.2.2.2.2.2.1, bt1224.2.2.2.2.2.2.2.2.2.1, bt1224.2.2.2.2.2.2.2.2.2.2.1, bt1224.2.2.2.2.2.2.2.2.2.2.2.1, bt1224.2.2.2.2.2.2.2.2.2.2.2.2⟩ : S28)⟩ : S30), (⟨(⟨bt1237.1, bt1237.2.1⟩ : S26), bt1237.2.2.1, (⟨bt1237.2.2.2.1, bt1237.2.2.2.2.1⟩ : S26), bt1237.2.2.2.2.2.1, (⟨bt1237.2.2.2.2.2.2.1, bt1237.2.2.2.2.2.2.2.1, bt1237.2.2.2.2.2.2.2.2.1, bt1237.2.2.2.2.2.2.2.2.2.1, bt1237.2.2.2.2.2.2.2.2.2.2.1, bt1237.2.2.2.2.2.2.2.2.2.2.2.1, bt1237.2.2.2.2.2.2.2.2.2.2.2.2⟩ : S28)⟩ : S30)] : List (S30)))).bind fun bt1253 => ((journal_Recover.f k 0 ([] : List Int)).bind fun bt1257 => ((journal_Append.f k ([] : List Int) 0 0 0 0 0 false 0 0 0 0 0 0 0).bind fun bt1263 => (if bt1253.2 = 0 then ((dancestudioref58_Bytes.f bt1253.1 t1137).bind fun t1267 => (if t1267 = true then (if bt1257.2.2.2 = 43 then (some (bt1263.2 == 43)) else (none)) else (none))) else (none)))))))) else (none)) else (none)) else (none)) else (none))) else (none)) else (none)) else (none))) else (none)) else (none)) else (none))) = some r := by first | (rw [hy1194]; with_reducible exact H) | (have H2_ := (Option.bind_some _ _).symm.trans H; rw [hy1194]; with_reducible exact H2_) | (have H2_ := (Option.bind_some _ _).symm.trans H; with_reducible exact H2_) | with_reducible exact H | (rw [hy1194]; exact H) | exact H
 have Ny1194 := Aside0.mk hy1194
 clear hy1194
 replace H := Option.bind_eq_some_iff.mp H
 obtain ⟨⟨t1198, t1199, t1202, t1203⟩, A220, H⟩ := H
 try dsimp only at H
 have A22 := Aside0.mk A220
 clear A220
 by_cases c23 : t1181 = 0
 rotate_left
 ·rw [if_neg c23] at H
  exact absurd H (by simp)
 rw [if_pos c23] at H
 have c23b0 : (t1181 == 0) = true := beq_iff_eq.mpr c23
 have c23b1 : (t1181 != 0) = false := bne_eq_false_iff_eq.mpr c23
 clear c23
 by_cases c24 : t1192 = 0
 rotate_left
 ·rw [if_neg c24] at H
  exact absurd H (by simp)
 rw [if_pos c24] at H
 have c24b0 : (t1192 == 0) = true := beq_iff_eq.mpr c24
 have c24b1 : (t1192 != 0) = false := bne_eq_false_iff_eq.mpr c24
 clear c24
 by_cases c25 : t1203 = 0
 rotate_left
 ·rw [if_neg c25] at H
  exact absurd H (by simp)
 rw [if_pos c25] at H
 have c25b0 : (t1203 == 0) = true := beq_iff_eq.mpr c25
 have c25b1 : (t1203 != 0) = false := bne_eq_false_iff_eq.mpr c25
 clear c25
 replace H := Option.bind_eq_some_iff.mp H
 obtain ⟨t1205, A260, H⟩ := H
 try dsimp only at H
 have A26 := Aside0.mk A260
 clear A260
 by_cases c27 : t1205 = true
 rotate_left
 ·replace c27 := Bool.eq_false_iff.mpr c27
  subst c27
  have H1 : (none) = some r := by rw [if_neg (show ¬ (false = true) by decide)] at H; exact H
  clear H
  have H := H1
  clear H1
  exact absurd H (by simp)
 subst c27
 rw [if_pos rfl] at H
 by_cases c28 : t1180 = (t1137.length : Int)
 rotate_left
 ·rw [if_neg c28] at H
  exact absurd H (by simp)
 rw [if_pos c28] at H
 have c28b0 : (t1180 == (t1137.length : Int)) = true := beq_iff_eq.mpr c28
 have c28b1 : (t1180 != (t1137.length : Int)) = false := bne_eq_false_iff_eq.mpr c28
 clear c28
 by_cases c29 : 1 ≤ (y1167.length : Int)
 rotate_left
 ·rw [if_neg c29] at H
  exact absurd H (by simp)
 rw [if_pos c29] at H
 have c29b0 := eq_true c29
 have c29b1 : decide (1 ≤ (y1167.length : Int)) = true := decide_eq_true c29
 clear c29
 obtain ⟨y1206, hy1206⟩ : ∃ y_ : List (S30), y_ = (y1167.take 1) := ⟨_, rfl⟩
 replace H : ((dancestudioref58_Same.f k t1187 t1188 2 y1206).bind fun t1210 => (if t1210 = true then (if t1191 = (t1120.length : Int) then (if (t1199.length : Int) = 0 then (if t1202 = 0 then ((dancestudiolaw58_hold.f 1 24).bind fun bt1211 => ((dancestudiolaw58_hold.f 2 12).bind fun bt1224 => ((dancestudiolaw58_drop.f).bind fun bt1237 => ((journal_Compact.f k 2 (([(⟨(⟨bt1211.1, bt1211.2.1⟩ : S26), bt1211.2.2.1, (⟨bt1211.2.2.2.1, bt1211.2.2.2.2.1⟩ : S26), bt1211.2.2.2.2.2.1, (⟨bt1211.2.2.2.2.2.2.1, bt1211.2.2.2.2.2.2.2.1, bt1211.2.2.2.2.2.2.2.2.1, bt1211.2.2.2.2.2.2.2.2.2.1, bt1211.2.2.2.2.2.2.2.2.2.2.1, bt1211.2.2.2.2.2.2.2.2.2.2.2.1, bt1211.2.2.2.2.2.2.2.2.2.2.2.2⟩ : S28)⟩ : S30), (⟨(⟨bt1224.1, bt1224.2.1⟩ : S26), bt1224.2.2.1, (⟨bt1224.2.2.2.1, bt1224.2.2.2.2.1⟩ : S26), bt1224.2.2.2.2.2.1, (⟨bt1224.2.2.2.2.2.2.1, bt1224.2.2.2.2.2.2.2.1, bt1224.2.2.2.2.2.2.2.2.1, bt1224.2.2.2.2.2.2.2.2.2.1, bt1224.2.2.2.2.2.2.2.2.2.2.1, bt1224.2.2.2.2.2.2.2.2.2.2.2.1, bt1224.2.2.2.2.2.2.2.2.2.2.2.2⟩ : S28)⟩ : S30), (⟨(⟨bt1237.1, bt1237.2.1⟩ : S26), bt1237.2.2.1, (⟨bt1237.2.2.2.1, bt1237.2.2.2.2.1⟩ : S26), bt1237.2.2.2.2.2.1, (⟨bt1237.2.2.2.2.2.2.1, bt1237.2.2.2.2.2.2.2.1, bt1237.2.2.2.2.2.2.2.2.1, bt1237.2.2.2.2.2.2.2.2.2.1, bt1237.2.2.2.2.2.2.2.2.2.2.1, bt1237.2.2.2.2.2.2.2.2.2.2.2.1, bt1237.2.2.2.2.2.2.2.2.2.2.2.2⟩ : S28)⟩ : S30)] : List (S30)))).bind fun bt1253 => ((journal_Recover.f k 0 ([] : List Int)).bind fun bt1257 => ((journal_Append.f k ([] : List Int) 0 0 0 0 0 false 0 0 0 0 0 0 0).bind fun bt1263 => (if bt1253.2 = 0 then ((dancestudioref58_Bytes.f bt1253.1 t1137).bind fun t1267 => (if t1267 = true then (if bt1257.2.2.2 = 43 then (some (bt1263.2 == 43)) else (none)) else (none))) else (none)))))))) else (none)) else (none)) else (none)) else (none))) = some r := by first | (rw [hy1206]; with_reducible exact H) | (have H2_ := (Option.bind_some _ _).symm.trans H; rw [hy1206]; with_reducible exact H2_) | (have H2_ := (Option.bind_some _ _).symm.trans H; with_reducible exact H2_) | with_reducible exact H | (rw [hy1206]; exact H) | exact H
 have Ny1206 := Aside0.mk hy1206
 clear hy1206
 replace H := Option.bind_eq_some_iff.mp H
 obtain ⟨t1210, A300, H⟩ := H
 try dsimp only at H
 have A30 := Aside0.mk A300
 clear A300
 by_cases c31 : t1210 = true
 rotate_left
 ·replace c31 := Bool.eq_false_iff.mpr c31
  subst c31
  have H1 : (none) = some r := by rw [if_neg (show ¬ (false = true) by decide)] at H; exact H
  clear H
  have H := H1
  clear H1
  exact absurd H (by simp)
 subst c31
 rw [if_pos rfl] at H
 by_cases c32 : t1191 = (t1120.length : Int)
 rotate_left
 ·rw [if_neg c32] at H
  exact absurd H (by simp)
 rw [if_pos c32] at H
 have c32b0 : (t1191 == (t1120.length : Int)) = true := beq_iff_eq.mpr c32
 have c32b1 : (t1191 != (t1120.length : Int)) = false := bne_eq_false_iff_eq.mpr c32
 clear c32
 by_cases c33 : (t1199.length : Int) = 0
 rotate_left
 ·rw [if_neg c33] at H
  exact absurd H (by simp)
 rw [if_pos c33] at H
 have c33b0 : ((t1199.length : Int) == 0) = true := beq_iff_eq.mpr c33
 have c33b1 : ((t1199.length : Int) != 0) = false := bne_eq_false_iff_eq.mpr c33
 clear c33
 by_cases c34 : t1202 = 0
 rotate_left
 ·rw [if_neg c34] at H
  exact absurd H (by simp)
 rw [if_pos c34] at H
 have c34b0 : (t1202 == 0) = true := beq_iff_eq.mpr c34
 have c34b1 : (t1202 != 0) = false := bne_eq_false_iff_eq.mpr c34
 clear c34
 replace H := Option.bind_eq_some_iff.mp H
 obtain ⟨⟨t1211, t1212, t1213, t1214, t1215, t1216, t1217, t1218, t1219, t1220, t1221, t1222, t1223⟩, A350, H⟩ := H
 try dsimp only at H
 have A35 := Aside0.mk A350
 clear A350
 replace H := Option.bind_eq_some_iff.mp H
 obtain ⟨⟨t1224, t1225, t1226, t1227, t1228, t1229, t1230, t1231, t1232, t1233, t1234, t1235, t1236⟩, A360, H⟩ := H
 try dsimp only at H
 have A36 := Aside0.mk A360
 clear A360
 replace H := Option.bind_eq_some_iff.mp H
 obtain ⟨⟨t1237, t1238, t1239, t1240, t1241, t1242, t1243, t1244, t1245, t1246, t1247, t1248, t1249⟩, A370, H⟩ := H
 try dsimp only at H
 have A37 := Aside0.mk A370
 clear A370
 obtain ⟨y1250, hy1250⟩ : ∃ y_ : List (S30), y_ = (([(⟨(⟨t1211, t1212⟩ : S26), t1213, (⟨t1214, t1215⟩ : S26), t1216, (⟨t1217, t1218, t1219, t1220, t1221, t1222, t1223⟩ : S28)⟩ : S30), (⟨(⟨t1224, t1225⟩ : S26), t1226, (⟨t1227, t1228⟩ : S26), t1229, (⟨t1230, t1231, t1232, t1233, t1234, t1235, t1236⟩ : S28)⟩ : S30), (⟨(⟨t1237, t1238⟩ : S26), t1239, (⟨t1240, t1241⟩ : S26), t1242, (⟨t1243, t1244, t1245, t1246, t1247, t1248, t1249⟩ : S28)⟩ : S30)] : List (S30))) := ⟨_, rfl⟩
 replace H : ((journal_Compact.f k 2 y1250).bind fun bt1253 => ((journal_Recover.f k 0 ([] : List Int)).bind fun bt1257 => ((journal_Append.f k ([] : List Int) 0 0 0 0 0 false 0 0 0 0 0 0 0).bind fun bt1263 => (if bt1253.2 = 0 then ((dancestudioref58_Bytes.f bt1253.1 t1137).bind fun t1267 => (if t1267 = true then (if bt1257.2.2.2 = 43 then (some (bt1263.2 == 43)) else (none)) else (none))) else (none))))) = some r := by first | (rw [hy1250]; with_reducible exact H) | (have H2_ := (Option.bind_some _ _).symm.trans H; rw [hy1250]; with_reducible exact H2_) | (have H2_ := (Option.bind_some _ _).symm.trans H; with_reducible exact H2_) | with_reducible exact H | (rw [hy1250]; exact H) | exact H
 have Ny1250 := Aside0.mk hy1250
 clear hy1250
 replace H := Option.bind_eq_some_iff.mp H
 obtain ⟨⟨t1253, t1256⟩, A380, H⟩ := H
 try dsimp only at H
 have A38 := Aside0.mk A380
 clear A380
 replace H := Option.bind_eq_some_iff.mp H
 obtain ⟨⟨t1257, t1258, t1261, t1262⟩, A390, H⟩ := H
 try dsimp only at H
 have A39 := Aside0.mk A390
 clear A390
 replace H := Option.bind_eq_some_iff.mp H
 obtain ⟨⟨t1263, t1266⟩, A400, H⟩ := H
 try dsimp only at H
 have A40 := Aside0.mk A400
 clear A400
 by_cases c41 : t1256 = 0
 rotate_left
 ·rw [if_neg c41] at H
  exact absurd H (by simp)
 rw [if_pos c41] at H
 have c41b0 : (t1256 == 0) = true := beq_iff_eq.mpr c41
 have c41b1 : (t1256 != 0) = false := bne_eq_false_iff_eq.mpr c41
 clear c41
 replace H := Option.bind_eq_some_iff.mp H
 obtain ⟨t1267, A420, H⟩ := H
 replace H : (if t1267 = true then (if t1262 = 43 then (some (t1266 == 43)) else (none)) else (none)) = some r := H
 have A42 := Aside0.mk A420
 clear A420
 by_cases c43 : t1267 = true
 rotate_left
 ·replace c43 := Bool.eq_false_iff.mpr c43
  subst c43
  have H1 : (none) = some r := by rw [if_neg (show ¬ (false = true) by decide)] at H; exact H
  clear H
  have H := H1
  clear H1
  exact absurd H (by simp)
 subst c43
 have H1 : (if t1262 = 43 then (some (t1266 == 43)) else (none)) = some r := by rw [if_pos rfl] at H; exact H
 clear H
 have H := H1
 clear H1
 by_cases c44 : t1262 = 43
 rotate_left
 ·rw [if_neg c44] at H
  exact absurd H (by simp)
 rw [if_pos c44] at H
 have c44b0 : (t1262 == 43) = true := beq_iff_eq.mpr c44
 have c44b1 : (t1262 != 43) = false := bne_eq_false_iff_eq.mpr c44
 clear c44
 obtain rfl := Option.some.inj H
 go_enter Try.func37, Try.ntmps37
 try go_wp2_with (first | ((with_reducible refine gate_callee (f := 80) rfl ?_); refine goesL_ (some 16) rfl rfl Try.func80 (by kernel_rfl) rfl #[.int .i64 1, .int .i64 24] rfl (by (try simp only [List.map_toArray, List.map_cons, List.map_nil]); first | done | rfl | (simp only [List.length_drop, List.length_take]; rfl)) ?_; (with_reducible refine (dancestudiolaw58_hold.calls 1 24 t1107 t1108 t1109 t1110 t1111 t1112 t1113 t1114 t1115 t1116 t1117 t1118 t1119 _ A1.out).mono ?_); rintro e w45 ⟨rfl, hb⟩; refine ⟨_, rfl, ?_⟩; replace HB := Aside0.mk (below_step (hU HB.out) hb); (try clear hb); (try clear hb2); (try clear hk); (try clear hi)) | ((with_reducible refine gate_callee (f := 38) rfl ?_); refine goesL_ (some 17) rfl rfl Try.func38 (by kernel_rfl) rfl #[.slice none 0 0, .agg #[.int .i64 t1107, .int .i64 t1108, .int .i64 t1109, .int .i64 t1110, .int .i64 t1111, .bool t1112, .int .i64 t1113, .int .i64 t1114, .int .i64 t1115, .int .i64 t1116, .int .i64 t1117, .int .i64 t1118, .int .i64 t1119]] rfl (by (try simp only [List.map_toArray, List.map_cons, List.map_nil]); first | done | rfl | (simp only [List.length_drop, List.length_take]; rfl)) ?_; (refine (journal_Append.calls k _ _ ([] : List Int) t1107 t1108 t1109 t1110 t1111 t1112 t1113 t1114 t1115 t1116 t1117 t1118 t1119 t1120 t1123 _ ?side1 ?side2 A2.out).mono ?_); (case side1 => exact Kd.C_nil _ _); (case side2 => exact Nat.le_refl _); rintro e w46 ⟨v1121, rfl, ho0, hb⟩; refine ⟨_, rfl, ?_⟩; replace HO1122 := Aside0.mk (Kd.R_lower ho0 (below_size (hU HB.out))); replace HB := Aside0.mk (below_step (hU HB.out) hb); (try clear hb); (try clear hb2); (try clear hk); (try clear hi); (try clear ho0)) | ((with_reducible refine gate_callee (f := 81) rfl ?_); refine goesL_ (some 22) rfl rfl Try.func81 (by kernel_rfl) rfl #[] rfl (by (try simp only [List.map_toArray, List.map_cons, List.map_nil]); first | done | rfl | (simp only [List.length_drop, List.length_take]; rfl)) ?_; (with_reducible refine (dancestudiolaw58_drop.calls  t1124 t1125 t1126 t1127 t1128 t1129 t1130 t1131 t1132 t1133 t1134 t1135 t1136 _ A3.out).mono ?_); rintro e w47 ⟨rfl, hb⟩; refine ⟨_, rfl, ?_⟩; replace HO1122 := Aside0.mk (Kd.R_below (Kd.rU HO1122.out) hb); replace HB := Aside0.mk (below_step (hU HB.out) hb); (try clear hb); (try clear hb2); (try clear hk); (try clear hi); obtain ⟨Ao48, co48, eo48⟩ := Kd.R_slice HO1122.out; subst eo48) | ((with_reducible refine gate_callee (f := 38) rfl ?_); refine goesL_ (some 23) rfl rfl Try.func38 (by kernel_rfl) rfl #[.slice Ao48 t1120.length co48, .agg #[.int .i64 t1124, .int .i64 t1125, .int .i64 t1126, .int .i64 t1127, .int .i64 t1128, .bool t1129, .int .i64 t1130, .int .i64 t1131, .int .i64 t1132, .int .i64 t1133, .int .i64 t1134, .int .i64 t1135, .int .i64 t1136]] rfl (by (try simp only [List.map_toArray, List.map_cons, List.map_nil]); first | done | rfl | (simp only [List.length_drop, List.length_take]; rfl)) ?_; (with_reducible refine (journal_Append.calls k _ _ t1120 t1124 t1125 t1126 t1127 t1128 t1129 t1130 t1131 t1132 t1133 t1134 t1135 t1136 t1137 t1140 _ ?side1 ?side2 A4.out).mono ?_); (case side1 => repeat (first | exact (Kd.R_reads' HO1122.out).2.2 | (with_reducible refine Kd.C_alloc ?_ _) | (with_reducible refine Kd.C_drewN ?_ _) | (with_reducible refine Kd.C_drew ?_))); (case side2 => exact (Kd.R_reads' HO1122.out).2.1); rintro e w49 ⟨v1138, rfl, ho0, hb⟩; refine ⟨_, rfl, ?_⟩; replace HO1139 := Aside0.mk (Kd.R_lower (Kd.R_new' ho0 (Kd.R_lt (Kd.rU HO1122.out))) (below_size (hU HB.out))); replace HO1122 := Aside0.mk (Kd.R_elder' (Kd.rU HO1122.out) (Kd.R_base ho0) hb); replace HB := Aside0.mk (below_step (hU HB.out) hb); (try clear hb); (try clear hb2); (try clear hk); (try clear hi); (try clear ho0)) | ((with_reducible refine gate_callee (f := 80) rfl ?_); refine goesL_ (some 26) rfl rfl Try.func80 (by kernel_rfl) rfl #[.int .i64 1, .int .i64 24] rfl (by (try simp only [List.map_toArray, List.map_cons, List.map_nil]); first | done | rfl | (simp only [List.length_drop, List.length_take]; rfl)) ?_; (with_reducible refine (dancestudiolaw58_hold.calls 1 24 t1141 t1142 t1143 t1144 t1145 t1146 t1147 t1148 t1149 t1150 t1151 t1152 t1153 _ A5.out).mono ?_); rintro e w50 ⟨rfl, hb⟩; refine ⟨_, rfl, ?_⟩; replace HO1122 := Aside0.mk (Kd.R_below (Kd.rU HO1122.out) hb); replace HO1139 := Aside0.mk (Kd.R_below (Kd.rU HO1139.out) hb); replace HB := Aside0.mk (below_step (hU HB.out) hb); (try clear hb); (try clear hb2); (try clear hk); (try clear hi)) | ((with_reducible refine gate_callee (f := 81) rfl ?_); refine goesL_ (some 27) rfl rfl Try.func81 (by kernel_rfl) rfl #[] rfl (by (try simp only [List.map_toArray, List.map_cons, List.map_nil]); first | done | rfl | (simp only [List.length_drop, List.length_take]; rfl)) ?_; (with_reducible refine (dancestudiolaw58_drop.calls  t1154 t1155 t1156 t1157 t1158 t1159 t1160 t1161 t1162 t1163 t1164 t1165 t1166 _ A6.out).mono ?_); rintro e w51 ⟨rfl, hb⟩; refine ⟨_, rfl, ?_⟩; replace HO1122 := Aside0.mk (Kd.R_below (Kd.rU HO1122.out) hb); replace HO1139 := Aside0.mk (Kd.R_below (Kd.rU HO1139.out) hb); replace HB := Aside0.mk (below_step (hU HB.out) hb); (try clear hb); (try clear hb2); (try clear hk); (try clear hi)) | ((with_reducible refine gate_dst (N := 28) rfl ?_); (try (refine gate_guard (by rfl) ?_; dsimp only)); refine Kd.R_lit k30 _ 30 ?hg (N := 28) ?hd (xs := ([(⟨(⟨t1141, t1142⟩ : S26), t1143, (⟨t1144, t1145⟩ : S26), t1146, (⟨t1147, t1148, t1149, t1150, t1151, t1152, t1153⟩ : S28)⟩ : S30), (⟨(⟨t1154, t1155⟩ : S26), t1156, (⟨t1157, t1158⟩ : S26), t1159, (⟨t1160, t1161, t1162, t1163, t1164, t1165, t1166⟩ : S28)⟩ : S30)] : List (S30))) (inner := [.int .i64 t1141, .int .i64 t1142, .int .i64 t1143, .int .i64 t1144, .int .i64 t1145, .bool t1146, .int .i64 t1147, .int .i64 t1148, .int .i64 t1149, .int .i64 t1150, .int .i64 t1151, .int .i64 t1152, .int .i64 t1153, .int .i64 t1154, .int .i64 t1155, .int .i64 t1156, .int .i64 t1157, .int .i64 t1158, .bool t1159, .int .i64 t1160, .int .i64 t1161, .int .i64 t1162, .int .i64 t1163, .int .i64 t1164, .int .i64 t1165, .int .i64 t1166]) (ok := fun _ => True) (okp := fun _ => True) ?hr ?hp (fun _ hk => hk) trivial (Below.refl _ _) (Nat.le_refl _) (by simp) ?_; (case hd => rfl); (case hg => rfl); (case hr => first | (go_simp; done) | (go_simp; rfl)); (case hp => exact (Reps.front (show Kd.M k30 _ _ _ (⟨(⟨t1141, t1142⟩ : S26), t1143, (⟨t1144, t1145⟩ : S26), t1146, (⟨t1147, t1148, t1149, t1150, t1151, t1152, t1153⟩ : S28)⟩ : S30) [.int .i64 t1141, .int .i64 t1142, .int .i64 t1143, .int .i64 t1144, .int .i64 t1145, .bool t1146, .int .i64 t1147, .int .i64 t1148, .int .i64 t1149, .int .i64 t1150, .int .i64 t1151, .int .i64 t1152, .int .i64 t1153] from (k30_mkM _ _ _ (⟨(⟨t1141, t1142⟩ : S26), t1143, (⟨t1144, t1145⟩ : S26), t1146, (⟨t1147, t1148, t1149, t1150, t1151, t1152, t1153⟩ : S28)⟩ : S30) )) rfl (Reps.front (show Kd.M k30 _ _ _ (⟨(⟨t1154, t1155⟩ : S26), t1156, (⟨t1157, t1158⟩ : S26), t1159, (⟨t1160, t1161, t1162, t1163, t1164, t1165, t1166⟩ : S28)⟩ : S30) [.int .i64 t1154, .int .i64 t1155, .int .i64 t1156, .int .i64 t1157, .int .i64 t1158, .bool t1159, .int .i64 t1160, .int .i64 t1161, .int .i64 t1162, .int .i64 t1163, .int .i64 t1164, .int .i64 t1165, .int .i64 t1166] from (k30_mkM _ _ _ (⟨(⟨t1154, t1155⟩ : S26), t1156, (⟨t1157, t1158⟩ : S26), t1159, (⟨t1160, t1161, t1162, t1163, t1164, t1165, t1166⟩ : S28)⟩ : S30) )) rfl (Reps.none _ _) rfl) rfl)); intro v1168 w52 ho53 hb hg_ hnew_; clear hg_ hnew_; (first | rw [← Ny1167.out] at ho53 | (simp only [Int.reduceToNat] at ho53; rw [← Ny1167.out] at ho53)); have n0_ := Aside0.mk (Kd.R_below (Kd.rU HO1122.out) hb); have n1_ := Aside0.mk (Kd.R_below (Kd.rU HO1139.out) hb); have n2_ := Aside0.mk (Kd.R_lower ho53 (below_size (hU HB.out))); have n3_ := Aside0.mk (below_step (hU HB.out) hb); clear HO1122; clear HO1139; clear HB; have HO1122 := n0_; have HO1139 := n1_; have HO1169 := n2_; have HB := n3_; clear n0_ n1_ n2_ n3_; clear hb ho53; obtain ⟨Ao54, co54, eo54⟩ := Kd.R_slice HO1169.out; subst eo54) | ((with_reducible refine gate_dst (N := 5) rfl ?_); (try (refine gate_guard (by rfl) ?_; dsimp only)); refine box_event ?hg (N := 5) ?hd (cs := #[.int .i64 0, .slice none 0 0]) (t := 24) ?hr ?_; (case hd => rfl); (case hg => rfl); (case hr => first | (go_simp; done) | (go_simp; rfl)); intro gb1170 hg w55 hbox hb; have n0_ := Aside0.mk (Kd.R_below (Kd.rU HO1122.out) hb); have n1_ := Aside0.mk (Kd.R_below (Kd.rU HO1139.out) hb); have n2_ := Aside0.mk (Kd.R_below (Kd.rU HO1169.out) hb); have n3_ := Aside0.mk (below_step (hU HB.out) hb); have n4_ := Aside0.mk (hbox); have n5_ := Aside0.mk ((by rw [hg]; exact (below_size (hU HB.out)) : w.heap.size ≤ gb1170)); have n6_ := Aside0.mk ((by rw [hg]; exact (below_size (hU HB.out)) : w.heap.size ≤ gb1170)); clear HO1122; clear HO1139; clear HO1169; clear HB; have HO1122 := n0_; have HO1139 := n1_; have HO1169 := n2_; have HB := n3_; have BK1170 := n4_; have GW1170 := n5_; have GE1170 := n6_; clear n0_ n1_ n2_ n3_ n4_ n5_ n6_; clear hb hbox hg; have hcz56_0 := blk_cell BK1170.out; have hfz56_0 := blk_frozen BK1170.out) | ((with_reducible refine gate_callee (f := 44) rfl ?_); refine goesL_ (some 32) rfl rfl Try.func44 (by kernel_rfl) rfl #[.agg #[.int .i64 2, .slice Ao54 y1167.length co54]] rfl (by (try simp only [List.map_toArray, List.map_cons, List.map_nil]); first | done | rfl | (simp only [List.length_drop, List.length_take]; rfl)) ?_; (with_reducible refine (journal_Write.calls k 2 _ _ y1167 t1171 t1174 _ ?side1 ?side2 A7.out).mono ?_); (case side1 => refine (Kd.R_reads' (e := 30) (base := w.heap.size) (ok := fun k_ => True) (n := y1167.length) (c := co54) ?_).2.2; exact (by (with_reducible repeat (first | apply Kd.R_alloc | apply Kd.R_drewN | apply Kd.R_drew)); exact (Kd.R_mono (Kd.R_far (p := ⟨gb1170, 1, none⟩) (Kd.R_far (p := ⟨gb1170, 0, none⟩) (Kd.R_types HO1169.out BK1170.out (by decide)) (fun _ hk => hk.2) (.int .i64 2)) (fun _ hk => hk.2) (.slice Ao54 y1167.length co54)) (fun _ h_ => h_.1)))); (case side2 => exact (Kd.R_reads' HO1169.out).2.1); rintro e w57 ⟨v1172, rfl, ho0, hb⟩; refine ⟨_, rfl, ?_⟩; replace HO1169 := Aside0.mk (Kd.R_below (by (with_reducible repeat (first | apply Kd.R_alloc | apply Kd.R_drewN | apply Kd.R_drew)); exact (Kd.R_mono (Kd.R_far (p := ⟨gb1170, 1, none⟩) (Kd.R_far (p := ⟨gb1170, 0, none⟩) (Kd.R_types HO1169.out BK1170.out (by decide)) (fun _ hk => hk.2) (.int .i64 2)) (fun _ hk => hk.2) (.slice Ao54 y1167.length co54)) (fun _ h_ => h_.1))) hb); replace HO1173 := Aside0.mk (Kd.R_lower (Kd.R_new' (Kd.R_new' ho0 (Kd.R_lt (by (with_reducible repeat (first | apply Kd.R_alloc | apply Kd.R_drewN | apply Kd.R_drew)); exact (Kd.R_mono (Kd.R_far (p := ⟨gb1170, 1, none⟩) (Kd.R_far (p := ⟨gb1170, 0, none⟩) (Kd.R_types HO1122.out BK1170.out (by decide)) (fun _ hk => hk.2) (.int .i64 2)) (fun _ hk => hk.2) (.slice Ao54 y1167.length co54)) (fun _ h_ => h_.1))))) (Kd.R_lt (by (with_reducible repeat (first | apply Kd.R_alloc | apply Kd.R_drewN | apply Kd.R_drew)); exact (Kd.R_mono (Kd.R_far (p := ⟨gb1170, 1, none⟩) (Kd.R_far (p := ⟨gb1170, 0, none⟩) (Kd.R_types HO1139.out BK1170.out (by decide)) (fun _ hk => hk.2) (.int .i64 2)) (fun _ hk => hk.2) (.slice Ao54 y1167.length co54)) (fun _ h_ => h_.1))))) (below_size (hU HB.out))); replace HO1122 := Aside0.mk (Kd.R_elder' (by (with_reducible repeat (first | apply Kd.R_alloc | apply Kd.R_drewN | apply Kd.R_drew)); exact (Kd.R_mono (Kd.R_far (p := ⟨gb1170, 1, none⟩) (Kd.R_far (p := ⟨gb1170, 0, none⟩) (Kd.R_types HO1122.out BK1170.out (by decide)) (fun _ hk => hk.2) (.int .i64 2)) (fun _ hk => hk.2) (.slice Ao54 y1167.length co54)) (fun _ h_ => h_.1))) (Kd.R_base ho0) hb); replace HO1139 := Aside0.mk (Kd.R_elder' (by (with_reducible repeat (first | apply Kd.R_alloc | apply Kd.R_drewN | apply Kd.R_drew)); exact (Kd.R_mono (Kd.R_far (p := ⟨gb1170, 1, none⟩) (Kd.R_far (p := ⟨gb1170, 0, none⟩) (Kd.R_types HO1139.out BK1170.out (by decide)) (fun _ hk => hk.2) (.int .i64 2)) (fun _ hk => hk.2) (.slice Ao54 y1167.length co54)) (fun _ h_ => h_.1))) (Kd.R_base ho0) hb); replace BK1170 := Aside0.mk (blk_below (g := gb1170) (o := .cells #[.int .i64 2, .slice Ao54 y1167.length co54] 24 (0, 0)) (by (with_reducible repeat (first | refine blk_drewN ?_ _ | refine blk_drew ?_ | refine blk_alloc ?_ _)); refine blk_put (cs := #[.int .i64 2, .slice none 0 0]) ?_ 1 _ rfl; (with_reducible repeat (first | refine blk_drewN ?_ _ | refine blk_drew ?_ | refine blk_alloc ?_ _)); refine blk_put (cs := #[.int .i64 0, .slice none 0 0]) ?_ 0 _ rfl; (with_reducible repeat (first | refine blk_drewN ?_ _ | refine blk_drew ?_ | refine blk_alloc ?_ _)); exact BK1170.out) hb); replace HB := Aside0.mk (below_step (hU HB.out) hb); (try clear hb); (try clear hb2); (try clear hk); (try clear hi); (try clear ho0); obtain ⟨Ao58, co58, eo58⟩ := Kd.R_slice HO1139.out; subst eo58; obtain ⟨Ao59, co59, eo59⟩ := Kd.R_slice HO1173.out; subst eo59) | (go_at_call 40; (with_reducible refine (dancestudioref58_Bytes.calls _ _ t1171 _ _ t1137 true _ ?side1 ?side2 ?side3 ?side4 A13.out).mono ?_); (case side1 => repeat (first | exact (Kd.R_reads' HO1173.out).2.2 | (with_reducible refine Kd.C_alloc ?_ _) | (with_reducible refine Kd.C_drewN ?_ _) | (with_reducible refine Kd.C_drew ?_))); (case side2 => exact (Kd.R_reads' HO1173.out).2.1); (case side3 => repeat (first | exact (Kd.R_reads' HO1139.out).2.2 | (with_reducible refine Kd.C_alloc ?_ _) | (with_reducible refine Kd.C_drewN ?_ _) | (with_reducible refine Kd.C_drew ?_))); (case side4 => exact (Kd.R_reads' HO1139.out).2.1); rintro e w' ⟨rfl, ⟨nd, rfl⟩⟩; (try (rw [drewN_self w57]; generalize hq_ : World.drewN w57 _ = w57; have n0_ : Aside0 (Kd.R (Kd.int .u8) 5 w57 w.heap.size (fun k_ => some k_ ≠ (.slice Ao58 t1137.length co58 : Value).ownBlock ∧ some k_ ≠ (.slice Ao59 t1171.length co59 : Value).ownBlock) (.slice Ao48 t1120.length co48) t1120) := ⟨by rw [← hq_]; exact (by (with_reducible repeat (first | apply Kd.R_alloc | apply Kd.R_drewN | apply Kd.R_drew)); exact Kd.R_mono HO1122.out (fun _ hk => by revert hk; simp only [and_imp]; intros; (repeat' apply And.intro) <;> assumption))⟩; have n1_ : Aside0 (Kd.R (Kd.int .u8) 5 w57 w.heap.size (fun k_ => some k_ ≠ (.slice Ao48 t1120.length co48 : Value).ownBlock ∧ some k_ ≠ (.slice Ao59 t1171.length co59 : Value).ownBlock) (.slice Ao58 t1137.length co58) t1137) := ⟨by rw [← hq_]; exact (by (with_reducible repeat (first | apply Kd.R_alloc | apply Kd.R_drewN | apply Kd.R_drew)); exact Kd.R_mono HO1139.out (fun _ hk => by revert hk; simp only [and_imp]; intros; (repeat' apply And.intro) <;> assumption))⟩; have n2_ : Aside0 (Kd.R k30 30 w57 w.heap.size (fun _ => True) (.slice Ao54 y1167.length co54) y1167) := ⟨by rw [← hq_]; exact (Kd.rU HO1169.out)⟩; have n3_ : Aside0 (Kd.R (Kd.int .u8) 5 w57 w.heap.size (fun k_ => some k_ ≠ (.slice Ao48 t1120.length co48 : Value).ownBlock ∧ some k_ ≠ (.slice Ao58 t1137.length co58 : Value).ownBlock) (.slice Ao59 t1171.length co59) t1171) := ⟨by rw [← hq_]; exact (by (with_reducible repeat (first | apply Kd.R_alloc | apply Kd.R_drewN | apply Kd.R_drew)); exact Kd.R_mono HO1173.out (fun _ hk => by revert hk; simp only [and_imp]; intros; (repeat' apply And.intro) <;> assumption))⟩; have n4_ : Aside0 (w57.heap[gb1170]? = some (.cells #[.int .i64 2, .slice Ao54 y1167.length co54] 24 (0, 0))) := ⟨by rw [← hq_]; exact (bU BK1170.out)⟩; have n5_ : Aside0 (Below w.heap.size w w57) := ⟨by rw [← hq_]; exact (hU HB.out)⟩; clear HO1122 HO1139 HO1169 HO1173 BK1170 HB hq_; have HO1122 := n0_; have HO1139 := n1_; have HO1169 := n2_; have HO1173 := n3_; have BK1170 := n4_; have HB := n5_; clear n0_ n1_ n2_ n3_ n4_ n5_)); (try have hcy1170 := blk_cell BK1170.out); (try have hfy1170 := blk_frozen BK1170.out)) | ((with_reducible refine gate_callee (f := 41) rfl ?_); refine goesL_ (some 65) rfl rfl Try.func41 (by kernel_rfl) rfl #[.int .i64 2, .slice Ao58 t1137.length co58] rfl (by (try simp only [List.map_toArray, List.map_cons, List.map_nil]); first | done | rfl | (simp only [List.length_drop, List.length_take]; rfl)) ?_; (with_reducible refine (journal_Recover.calls k 2 _ _ t1137 t1176 t1177 t1180 t1181 _ ?side1 ?side2 A15.out).mono ?_); (case side1 => repeat (first | exact (Kd.R_reads' HO1139.out).2.2 | (with_reducible refine Kd.C_alloc ?_ _) | (with_reducible refine Kd.C_drewN ?_ _) | (with_reducible refine Kd.C_drew ?_))); (case side2 => exact (Kd.R_reads' HO1139.out).2.1); rintro e w60 ⟨v1178, rfl, ho0, hb⟩; refine ⟨_, rfl, ?_⟩; replace HO1122 := Aside0.mk (Kd.R_below (Kd.rU HO1122.out) hb); replace HO1139 := Aside0.mk (Kd.R_below (Kd.rU HO1139.out) hb); replace HO1173 := Aside0.mk (Kd.R_below (Kd.rU HO1173.out) hb); replace HO1179 := Aside0.mk (Kd.R_lower (Kd.R_new' ho0 (Kd.R_lt (Kd.rU HO1169.out))) (below_size (hU HB.out))); replace HO1169 := Aside0.mk (Kd.R_elder' (Kd.rU HO1169.out) (Kd.R_base ho0) hb); replace BK1170 := Aside0.mk (blk_below (bU BK1170.out) hb); replace HB := Aside0.mk (below_step (hU HB.out) hb); (try clear hb); (try clear hb2); (try clear hk); (try clear hi); (try clear ho0)) | ((with_reducible refine gate_dst (N := 8) rfl ?_); (try (refine gate_guard (by rfl) ?_; dsimp only)); refine box_event ?hg (N := 8) ?hd (cs := #[.int .i64 0, .slice none 0 0]) (t := 24) ?hr ?_; (case hd => rfl); (case hg => rfl); (case hr => first | (go_simp; done) | (go_simp; rfl)); intro gb1182 hg w61 hbox hb; have n0_ := Aside0.mk (Kd.R_below (Kd.rU HO1122.out) hb); have n1_ := Aside0.mk (Kd.R_below (Kd.rU HO1139.out) hb); have n2_ := Aside0.mk (Kd.R_below (Kd.rU HO1169.out) hb); have n3_ := Aside0.mk (Kd.R_below (Kd.rU HO1173.out) hb); have n4_ := Aside0.mk (Kd.R_below (Kd.rU HO1179.out) hb); have n5_ := Aside0.mk (blk_below (bU BK1170.out) hb); have n6_ := Aside0.mk (below_step (hU HB.out) hb); have n7_ := Aside0.mk (hbox); have n8_ := Aside0.mk ((by rw [hg]; exact (below_size (hU HB.out)) : w.heap.size ≤ gb1182)); have n9_ := Aside0.mk ((by rw [hg]; exact (below_size (hU HB.out)) : w.heap.size ≤ gb1182)); have n10_ := Aside0.mk ((by rw [hg]; exact Nat.ne_of_lt (blk_lt (bU BK1170.out)) : gb1170 ≠ gb1182)); have n11_ := Aside0.mk ((by rw [hg]; exact Nat.ne_of_gt (blk_lt (bU BK1170.out)) : gb1182 ≠ gb1170)); clear HO1122; clear HO1139; clear HO1169; clear HO1173; clear HO1179; clear BK1170; clear HB; have HO1122 := n0_; have HO1139 := n1_; have HO1169 := n2_; have HO1173 := n3_; have HO1179 := n4_; have BK1170 := n5_; have HB := n6_; have BK1182 := n7_; have GW1182 := n8_; have GE1182 := n9_; have NB1170_1182 := n10_; have NB1182_1170 := n11_; clear n0_ n1_ n2_ n3_ n4_ n5_ n6_ n7_ n8_ n9_ n10_ n11_; clear hb hbox hg; have hnb62 := NB1182_1170.out; have hnc62 := NB1170_1182.out; have hcz63_0 := blk_cell BK1182.out; have hfz63_0 := blk_frozen BK1182.out; obtain ⟨Ao64, co64, eo64⟩ := Kd.R_slice HO1179.out; subst eo64) | ((with_reducible refine gate_store (t := 24) (p := 8) rfl ?_); refine store_event (t := 24) (p := 8) (v := ?vo_w65) (w1 := ((w61.setCell ⟨gb1182, 0, none⟩ (.int .i64 t1176)).setCell ⟨gb1182, 1, none⟩ (.slice Ao64 t1177.length co64))) ?hg ?ho ?hn ?hr ?_; (case ho => rfl); (case hg => rfl); (case hn => rfl); (case hr => first | (go_simp; done) | (go_simp; rfl)); intro w65 hw; replace HO1122 : Aside0 (Kd.R (Kd.int .u8) 5 w65 w.heap.size (fun k_ => some k_ ≠ (.slice Ao58 t1137.length co58 : Value).ownBlock ∧ some k_ ≠ (.slice Ao59 t1171.length co59 : Value).ownBlock) (.slice Ao48 t1120.length co48) t1120) := ⟨(by rw [hw]; exact (by (with_reducible repeat (first | apply Kd.R_alloc | apply Kd.R_drewN | apply Kd.R_drew)); exact Kd.R_mono (Kd.R_far (p := ⟨gb1182, 1, none⟩) (Kd.R_far (p := ⟨gb1182, 0, none⟩) (Kd.R_types HO1122.out BK1182.out (by decide)) (fun _ hk => hk.2) (.int .i64 t1176)) (fun _ hk => hk.2) (.slice Ao64 t1177.length co64)) (fun _ hk => by revert hk; simp only [and_imp]; intros; (repeat' apply And.intro) <;> assumption)))⟩; replace HO1139 : Aside0 (Kd.R (Kd.int .u8) 5 w65 w.heap.size (fun k_ => some k_ ≠ (.slice Ao48 t1120.length co48 : Value).ownBlock ∧ some k_ ≠ (.slice Ao59 t1171.length co59 : Value).ownBlock) (.slice Ao58 t1137.length co58) t1137) := ⟨(by rw [hw]; exact (by (with_reducible repeat (first | apply Kd.R_alloc | apply Kd.R_drewN | apply Kd.R_drew)); exact Kd.R_mono (Kd.R_far (p := ⟨gb1182, 1, none⟩) (Kd.R_far (p := ⟨gb1182, 0, none⟩) (Kd.R_types HO1139.out BK1182.out (by decide)) (fun _ hk => hk.2) (.int .i64 t1176)) (fun _ hk => hk.2) (.slice Ao64 t1177.length co64)) (fun _ hk => by revert hk; simp only [and_imp]; intros; (repeat' apply And.intro) <;> assumption)))⟩; replace HO1169 : Aside0 (Kd.R k30 30 w65 w.heap.size (fun k_ => some k_ ≠ (.slice Ao64 t1177.length co64 : Value).ownBlock) (.slice Ao54 y1167.length co54) y1167) := ⟨(by rw [hw]; exact (by (with_reducible repeat (first | apply Kd.R_alloc | apply Kd.R_drewN | apply Kd.R_drew)); exact Kd.R_mono (Kd.R_far (p := ⟨gb1182, 1, none⟩) (Kd.R_far (p := ⟨gb1182, 0, none⟩) (Kd.R_types HO1169.out BK1182.out (by decide)) (fun _ hk => hk.2) (.int .i64 t1176)) (fun _ hk => hk.2) (.slice Ao64 t1177.length co64)) (fun _ hk => hk.1.2)))⟩; replace HO1173 : Aside0 (Kd.R (Kd.int .u8) 5 w65 w.heap.size (fun k_ => some k_ ≠ (.slice Ao48 t1120.length co48 : Value).ownBlock ∧ some k_ ≠ (.slice Ao58 t1137.length co58 : Value).ownBlock) (.slice Ao59 t1171.length co59) t1171) := ⟨(by rw [hw]; exact (by (with_reducible repeat (first | apply Kd.R_alloc | apply Kd.R_drewN | apply Kd.R_drew)); exact Kd.R_mono (Kd.R_far (p := ⟨gb1182, 1, none⟩) (Kd.R_far (p := ⟨gb1182, 0, none⟩) (Kd.R_types HO1173.out BK1182.out (by decide)) (fun _ hk => hk.2) (.int .i64 t1176)) (fun _ hk => hk.2) (.slice Ao64 t1177.length co64)) (fun _ hk => by revert hk; simp only [and_imp]; intros; (repeat' apply And.intro) <;> assumption)))⟩; replace HO1179 : Aside0 (Kd.R k30 30 w65 w.heap.size (fun k_ => some k_ ≠ (.slice Ao54 y1167.length co54 : Value).ownBlock) (.slice Ao64 t1177.length co64) t1177) := ⟨(by rw [hw]; exact (by (with_reducible repeat (first | apply Kd.R_alloc | apply Kd.R_drewN | apply Kd.R_drew)); exact Kd.R_mono (Kd.R_far (p := ⟨gb1182, 1, none⟩) (Kd.R_far (p := ⟨gb1182, 0, none⟩) (Kd.R_types HO1179.out BK1182.out (by decide)) (fun _ hk => hk.2) (.int .i64 t1176)) (fun _ hk => hk.2) (.slice Ao64 t1177.length co64)) (fun _ hk => hk.1.2)))⟩; replace BK1170 : Aside0 (w65.heap[gb1170]? = some (.cells #[.int .i64 2, .slice Ao54 y1167.length co54] 24 (0, 0))) := ⟨(by rw [hw]; exact (by (with_reducible repeat (first | refine blk_drewN ?_ _ | refine blk_drew ?_ | refine blk_alloc ?_ _)); refine (Below.heap_setCell _ ⟨_, _, none⟩ _ _ NB1170_1182.out).trans ?_; (with_reducible repeat (first | refine blk_drewN ?_ _ | refine blk_drew ?_ | refine blk_alloc ?_ _)); refine (Below.heap_setCell _ ⟨_, _, none⟩ _ _ NB1170_1182.out).trans ?_; (with_reducible repeat (first | refine blk_drewN ?_ _ | refine blk_drew ?_ | refine blk_alloc ?_ _)); exact BK1170.out))⟩; replace BK1182 : Aside0 (w65.heap[gb1182]? = some (.cells #[.int .i64 t1176, .slice Ao64 t1177.length co64] 24 (0, 0))) := ⟨(by rw [hw]; exact (by (with_reducible repeat (first | refine blk_drewN ?_ _ | refine blk_drew ?_ | refine blk_alloc ?_ _)); refine blk_put (cs := #[.int .i64 t1176, .slice none 0 0]) ?_ 1 _ rfl; (with_reducible repeat (first | refine blk_drewN ?_ _ | refine blk_drew ?_ | refine blk_alloc ?_ _)); refine blk_put (cs := #[.int .i64 0, .slice none 0 0]) ?_ 0 _ rfl; (with_reducible repeat (first | refine blk_drewN ?_ _ | refine blk_drew ?_ | refine blk_alloc ?_ _)); exact BK1182.out))⟩; replace HB : Aside0 (Below w.heap.size w w65) := ⟨(by rw [hw]; exact (hU HB.out))⟩; (try clear hw); have q66 : ((ji16) : Int) ≤ ((t1137.length : Int) : Int) := of_decide_eq_true (by first | (with_reducible assumption) | assumption); obtain ⟨i066, hi066, _, hsz66, _⟩ := info_parts info5; have hroom66 : t1137.length ≤ co58 := (Kd.R_reads' HO1139.out).2.1; have hC66 : Kd.C (Kd.int .u8) _ Ao58 t1137.length t1137 := (Kd.R_reads' HO1139.out).2.2; have hcut66 := cut_to (P := Try.prog) 60 5 .i64 Try.underlying60 hi066 Ao58 t1137.length co58 (ji16) (of_decide_eq_true (by first | (with_reducible assumption) | assumption)) q66 hroom66; have hr66 := Kd.C_take (m := ((ji16) : Int).toNat) hC66 (by omega); have hy66 : y1183.length = ((ji16) : Int).toNat := (by rw [Ny1183.out, List.length_take]; omega); rw [← Ny1183.out] at hr66; rw [← hy66] at hcut66; have HR1186 := Aside0.mk hr66; have HC1186 := Aside0.mk (show y1183.length ≤ co58 from by omega); clear hr66 hC66 hroom66 hi066 hsz66; have KY66 := Aside0.mk hy66; clear hy66; have KL66 := Aside0.mk (show ((ji16) : Int).toNat ≤ t1137.length from by omega); replace q66 := eq_true q66) | ((with_reducible refine gate_callee (f := 41) rfl ?_); refine goesL_ (some 75) rfl rfl Try.func41 (by kernel_rfl) rfl #[.int .i64 2, .slice Ao58 y1183.length co58] rfl (by (try simp only [List.map_toArray, List.map_cons, List.map_nil]); first | done | rfl | (simp only [List.length_drop, List.length_take]; rfl)) ?_; (with_reducible refine (journal_Recover.calls k 2 _ _ y1183 t1187 t1188 t1191 t1192 _ ?side1 ?side2 A19.out).mono ?_); (case side1 => repeat (first | exact (by repeat (first | (with_reducible exact HR1186.out) | (with_reducible refine Kd.C_alloc ?_ _) | (with_reducible refine Kd.C_drewN ?_ _) | (with_reducible refine Kd.C_drew ?_) | exact HR1186.out)) | (with_reducible refine Kd.C_alloc ?_ _) | (with_reducible refine Kd.C_drewN ?_ _) | (with_reducible refine Kd.C_drew ?_))); (case side2 => exact HC1186.out); rintro e w67 ⟨v1189, rfl, ho0, hb⟩; refine ⟨_, rfl, ?_⟩; replace HO1122 := Aside0.mk (Kd.R_below (Kd.rU HO1122.out) hb); replace HO1139 := Aside0.mk (Kd.R_below (Kd.rU HO1139.out) hb); replace HO1173 := Aside0.mk (Kd.R_below (Kd.rU HO1173.out) hb); replace HO1190 := Aside0.mk (Kd.R_lower (Kd.R_new' (Kd.R_new' ho0 (Kd.R_lt (Kd.rU HO1169.out))) (Kd.R_lt (Kd.rU HO1179.out))) (below_size (hU HB.out))); replace HO1169 := Aside0.mk (Kd.R_elder' (Kd.rU HO1169.out) (Kd.R_base ho0) hb); replace HO1179 := Aside0.mk (Kd.R_elder' (Kd.rU HO1179.out) (Kd.R_base ho0) hb); replace BK1170 := Aside0.mk (blk_below (bU BK1170.out) hb); replace BK1182 := Aside0.mk (blk_below (bU BK1182.out) hb); replace HR1186 := Aside0.mk (Kd.C_below (by repeat (first | (with_reducible exact HR1186.out) | (with_reducible refine Kd.C_alloc ?_ _) | (with_reducible refine Kd.C_drewN ?_ _) | (with_reducible refine Kd.C_drew ?_) | exact HR1186.out)) hb); replace HB := Aside0.mk (below_step (hU HB.out) hb); (try clear hb); (try clear hb2); (try clear hk); (try clear hi); (try clear ho0)) | ((with_reducible refine gate_dst (N := 10) rfl ?_); (try (refine gate_guard (by rfl) ?_; dsimp only)); refine box_event ?hg (N := 10) ?hd (cs := #[.int .i64 0, .slice none 0 0]) (t := 24) ?hr ?_; (case hd => rfl); (case hg => rfl); (case hr => first | (go_simp; done) | (go_simp; rfl)); intro gb1193 hg w68 hbox hb; have n0_ := Aside0.mk (Kd.R_below (Kd.rU HO1122.out) hb); have n1_ := Aside0.mk (Kd.R_below (Kd.rU HO1139.out) hb); have n2_ := Aside0.mk (Kd.R_below (Kd.rU HO1169.out) hb); have n3_ := Aside0.mk (Kd.R_below (Kd.rU HO1173.out) hb); have n4_ := Aside0.mk (Kd.R_below (Kd.rU HO1179.out) hb); have n5_ := Aside0.mk (Kd.R_below (Kd.rU HO1190.out) hb); have n6_ := Aside0.mk (blk_below (bU BK1170.out) hb); have n7_ := Aside0.mk (blk_below (bU BK1182.out) hb); have n8_ := Aside0.mk (below_step (hU HB.out) hb); have n9_ := Aside0.mk (hbox); have n10_ := Aside0.mk ((by rw [hg]; exact (below_size (hU HB.out)) : w.heap.size ≤ gb1193)); have n11_ := Aside0.mk ((by rw [hg]; exact (below_size (hU HB.out)) : w.heap.size ≤ gb1193)); have n12_ := Aside0.mk ((by rw [hg]; exact Nat.ne_of_lt (blk_lt (bU BK1170.out)) : gb1170 ≠ gb1193)); have n13_ := Aside0.mk ((by rw [hg]; exact Nat.ne_of_gt (blk_lt (bU BK1170.out)) : gb1193 ≠ gb1170)); have n14_ := Aside0.mk ((by rw [hg]; exact Nat.ne_of_lt (blk_lt (bU BK1182.out)) : gb1182 ≠ gb1193)); have n15_ := Aside0.mk ((by rw [hg]; exact Nat.ne_of_gt (blk_lt (bU BK1182.out)) : gb1193 ≠ gb1182)); clear HO1122; clear HO1139; clear HO1169; clear HO1173; clear HO1179; clear HO1190; clear BK1170; clear BK1182; clear HB; have HO1122 := n0_; have HO1139 := n1_; have HO1169 := n2_; have HO1173 := n3_; have HO1179 := n4_; have HO1190 := n5_; have BK1170 := n6_; have BK1182 := n7_; have HB := n8_; have BK1193 := n9_; have GW1193 := n10_; have GE1193 := n11_; have NB1170_1193 := n12_; have NB1193_1170 := n13_; have NB1182_1193 := n14_; have NB1193_1182 := n15_; clear n0_ n1_ n2_ n3_ n4_ n5_ n6_ n7_ n8_ n9_ n10_ n11_ n12_ n13_ n14_ n15_; clear hb hbox hg; have hnb69 := NB1193_1170.out; have hnc69 := NB1170_1193.out; have hnb70 := NB1193_1182.out; have hnc70 := NB1182_1193.out; have hcz71_0 := blk_cell BK1193.out; have hfz71_0 := blk_frozen BK1193.out; obtain ⟨Ao72, co72, eo72⟩ := Kd.R_slice HO1190.out; subst eo72) | ((with_reducible refine gate_store (t := 24) (p := 10) rfl ?_); refine store_event (t := 24) (p := 10) (v := ?vo_w73) (w1 := ((w68.setCell ⟨gb1193, 0, none⟩ (.int .i64 t1187)).setCell ⟨gb1193, 1, none⟩ (.slice Ao72 t1188.length co72))) ?hg ?ho ?hn ?hr ?_; (case ho => rfl); (case hg => rfl); (case hn => rfl); (case hr => first | (go_simp; done) | (go_simp; rfl)); intro w73 hw; replace HO1122 : Aside0 (Kd.R (Kd.int .u8) 5 w73 w.heap.size (fun k_ => some k_ ≠ (.slice Ao58 t1137.length co58 : Value).ownBlock ∧ some k_ ≠ (.slice Ao59 t1171.length co59 : Value).ownBlock) (.slice Ao48 t1120.length co48) t1120) := ⟨(by rw [hw]; exact (by (with_reducible repeat (first | apply Kd.R_alloc | apply Kd.R_drewN | apply Kd.R_drew)); exact Kd.R_mono (Kd.R_far (p := ⟨gb1193, 1, none⟩) (Kd.R_far (p := ⟨gb1193, 0, none⟩) (Kd.R_types HO1122.out BK1193.out (by decide)) (fun _ hk => hk.2) (.int .i64 t1187)) (fun _ hk => hk.2) (.slice Ao72 t1188.length co72)) (fun _ hk => by revert hk; simp only [and_imp]; intros; (repeat' apply And.intro) <;> assumption)))⟩; replace HO1139 : Aside0 (Kd.R (Kd.int .u8) 5 w73 w.heap.size (fun k_ => some k_ ≠ (.slice Ao48 t1120.length co48 : Value).ownBlock ∧ some k_ ≠ (.slice Ao59 t1171.length co59 : Value).ownBlock) (.slice Ao58 t1137.length co58) t1137) := ⟨(by rw [hw]; exact (by (with_reducible repeat (first | apply Kd.R_alloc | apply Kd.R_drewN | apply Kd.R_drew)); exact Kd.R_mono (Kd.R_far (p := ⟨gb1193, 1, none⟩) (Kd.R_far (p := ⟨gb1193, 0, none⟩) (Kd.R_types HO1139.out BK1193.out (by decide)) (fun _ hk => hk.2) (.int .i64 t1187)) (fun _ hk => hk.2) (.slice Ao72 t1188.length co72)) (fun _ hk => by revert hk; simp only [and_imp]; intros; (repeat' apply And.intro) <;> assumption)))⟩; replace HO1169 : Aside0 (Kd.R k30 30 w73 w.heap.size (fun k_ => some k_ ≠ (.slice Ao64 t1177.length co64 : Value).ownBlock ∧ some k_ ≠ (.slice Ao72 t1188.length co72 : Value).ownBlock) (.slice Ao54 y1167.length co54) y1167) := ⟨(by rw [hw]; exact (by (with_reducible repeat (first | apply Kd.R_alloc | apply Kd.R_drewN | apply Kd.R_drew)); exact Kd.R_mono (Kd.R_far (p := ⟨gb1193, 1, none⟩) (Kd.R_far (p := ⟨gb1193, 0, none⟩) (Kd.R_types HO1169.out BK1193.out (by decide)) (fun _ hk => hk.2) (.int .i64 t1187)) (fun _ hk => hk.2) (.slice Ao72 t1188.length co72)) (fun _ hk => by revert hk; simp only [and_imp]; intros; (repeat' apply And.intro) <;> assumption)))⟩; replace HO1173 : Aside0 (Kd.R (Kd.int .u8) 5 w73 w.heap.size (fun k_ => some k_ ≠ (.slice Ao48 t1120.length co48 : Value).ownBlock ∧ some k_ ≠ (.slice Ao58 t1137.length co58 : Value).ownBlock) (.slice Ao59 t1171.length co59) t1171) := ⟨(by rw [hw]; exact (by (with_reducible repeat (first | apply Kd.R_alloc | apply Kd.R_drewN | apply Kd.R_drew)); exact Kd.R_mono (Kd.R_far (p := ⟨gb1193, 1, none⟩) (Kd.R_far (p := ⟨gb1193, 0, none⟩) (Kd.R_types HO1173.out BK1193.out (by decide)) (fun _ hk => hk.2) (.int .i64 t1187)) (fun _ hk => hk.2) (.slice Ao72 t1188.length co72)) (fun _ hk => by revert hk; simp only [and_imp]; intros; (repeat' apply And.intro) <;> assumption)))⟩; replace HO1179 : Aside0 (Kd.R k30 30 w73 w.heap.size (fun k_ => some k_ ≠ (.slice Ao54 y1167.length co54 : Value).ownBlock ∧ some k_ ≠ (.slice Ao72 t1188.length co72 : Value).ownBlock) (.slice Ao64 t1177.length co64) t1177) := ⟨(by rw [hw]; exact (by (with_reducible repeat (first | apply Kd.R_alloc | apply Kd.R_drewN | apply Kd.R_drew)); exact Kd.R_mono (Kd.R_far (p := ⟨gb1193, 1, none⟩) (Kd.R_far (p := ⟨gb1193, 0, none⟩) (Kd.R_types HO1179.out BK1193.out (by decide)) (fun _ hk => hk.2) (.int .i64 t1187)) (fun _ hk => hk.2) (.slice Ao72 t1188.length co72)) (fun _ hk => by revert hk; simp only [and_imp]; intros; (repeat' apply And.intro) <;> assumption)))⟩; replace HO1190 : Aside0 (Kd.R k30 30 w73 w.heap.size (fun k_ => some k_ ≠ (.slice Ao54 y1167.length co54 : Value).ownBlock ∧ some k_ ≠ (.slice Ao64 t1177.length co64 : Value).ownBlock) (.slice Ao72 t1188.length co72) t1188) := ⟨(by rw [hw]; exact (by (with_reducible repeat (first | apply Kd.R_alloc | apply Kd.R_drewN | apply Kd.R_drew)); exact Kd.R_mono (Kd.R_far (p := ⟨gb1193, 1, none⟩) (Kd.R_far (p := ⟨gb1193, 0, none⟩) (Kd.R_types HO1190.out BK1193.out (by decide)) (fun _ hk => hk.2) (.int .i64 t1187)) (fun _ hk => hk.2) (.slice Ao72 t1188.length co72)) (fun _ hk => by revert hk; simp only [and_imp]; intros; (repeat' apply And.intro) <;> assumption)))⟩; replace BK1170 : Aside0 (w73.heap[gb1170]? = some (.cells #[.int .i64 2, .slice Ao54 y1167.length co54] 24 (0, 0))) := ⟨(by rw [hw]; exact (by (with_reducible repeat (first | refine blk_drewN ?_ _ | refine blk_drew ?_ | refine blk_alloc ?_ _)); refine (Below.heap_setCell _ ⟨_, _, none⟩ _ _ NB1170_1193.out).trans ?_; (with_reducible repeat (first | refine blk_drewN ?_ _ | refine blk_drew ?_ | refine blk_alloc ?_ _)); refine (Below.heap_setCell _ ⟨_, _, none⟩ _ _ NB1170_1193.out).trans ?_; (with_reducible repeat (first | refine blk_drewN ?_ _ | refine blk_drew ?_ | refine blk_alloc ?_ _)); exact BK1170.out))⟩; replace BK1182 : Aside0 (w73.heap[gb1182]? = some (.cells #[.int .i64 t1176, .slice Ao64 t1177.length co64] 24 (0, 0))) := ⟨(by rw [hw]; exact (by (with_reducible repeat (first | refine blk_drewN ?_ _ | refine blk_drew ?_ | refine blk_alloc ?_ _)); refine (Below.heap_setCell _ ⟨_, _, none⟩ _ _ NB1182_1193.out).trans ?_; (with_reducible repeat (first | refine blk_drewN ?_ _ | refine blk_drew ?_ | refine blk_alloc ?_ _)); refine (Below.heap_setCell _ ⟨_, _, none⟩ _ _ NB1182_1193.out).trans ?_; (with_reducible repeat (first | refine blk_drewN ?_ _ | refine blk_drew ?_ | refine blk_alloc ?_ _)); exact BK1182.out))⟩; replace BK1193 : Aside0 (w73.heap[gb1193]? = some (.cells #[.int .i64 t1187, .slice Ao72 t1188.length co72] 24 (0, 0))) := ⟨(by rw [hw]; exact (by (with_reducible repeat (first | refine blk_drewN ?_ _ | refine blk_drew ?_ | refine blk_alloc ?_ _)); refine blk_put (cs := #[.int .i64 t1187, .slice none 0 0]) ?_ 1 _ rfl; (with_reducible repeat (first | refine blk_drewN ?_ _ | refine blk_drew ?_ | refine blk_alloc ?_ _)); refine blk_put (cs := #[.int .i64 0, .slice none 0 0]) ?_ 0 _ rfl; (with_reducible repeat (first | refine blk_drewN ?_ _ | refine blk_drew ?_ | refine blk_alloc ?_ _)); exact BK1193.out))⟩; replace HB : Aside0 (Below w.heap.size w w73) := ⟨(by rw [hw]; exact (hU HB.out))⟩; (try clear hw); have q74 : ((t1120.length : Int) : Int) ≤ ((t1137.length : Int) : Int) := of_decide_eq_true (by first | (with_reducible assumption) | assumption); obtain ⟨i074, hi074, _, hsz74, _⟩ := info_parts info5; have hroom74 : t1137.length ≤ co58 := (Kd.R_reads' HO1139.out).2.1; have hC74 : Kd.C (Kd.int .u8) _ Ao58 t1137.length t1137 := (Kd.R_reads' HO1139.out).2.2; have q074 : (0 : Int) ≤ ((t1120.length : Int) : Int) := of_decide_eq_true (by first | (with_reducible assumption) | assumption); have hcut74 := cut_from (P := Try.prog) 60 5 .i64 Try.underlying60 hi074 1 hsz74 Ao58 t1137.length co58 (t1120.length : Int) q074 q74; have hr74 := Kd.C_drop (m := ((t1120.length : Int) : Int).toNat) (c := co58) hC74 (by omega) hroom74; obtain ⟨A74, hA74⟩ : ∃ A1, A1 = (if co58 = ((t1120.length : Int) : Int).toNat then Ao58 else (Ao58 : Option Addr).map (·.add (((t1120.length : Int) : Int).toNat * 1))) := ⟨_, rfl⟩; obtain ⟨c74, hc74⟩ : ∃ c1, c1 = co58 - ((t1120.length : Int) : Int).toNat := ⟨_, rfl⟩; have hy74 : y1194.length = t1137.length - ((t1120.length : Int) : Int).toNat := (by rw [Ny1194.out, List.length_drop] <;> omega); rw [show (t1137).drop ((t1120.length : Int) : Int).toNat = y1194 from Ny1194.out.symm] at hr74; replace hr74 : Kd.C (Kd.int .u8) _ A74 y1194.length y1194 := (by rw [hA74]; exact hr74); rw [← hy74, ← hA74, ← hc74] at hcut74; have HR1197 := Aside0.mk hr74; have HC1197 := Aside0.mk (show y1194.length ≤ c74 from by rw [hy74, hc74]; exact Nat.sub_le_sub_right hroom74 _); clear hr74 hC74 hroom74 hi074 hsz74 hc74; have KY74 := Aside0.mk hy74; have KA74 := Aside0.mk hA74; clear hy74 hA74; have KL74 := Aside0.mk (show ((t1120.length : Int) : Int).toNat ≤ t1137.length from by omega); replace q74 := eq_true q74) | ((with_reducible refine gate_callee (f := 41) rfl ?_); refine goesL_ (some 84) rfl rfl Try.func41 (by kernel_rfl) rfl #[.int .i64 2, .slice A74 y1194.length c74] rfl (by (try simp only [List.map_toArray, List.map_cons, List.map_nil]); first | done | rfl | (simp only [List.length_drop, List.length_take]; rfl)) ?_; (with_reducible refine (journal_Recover.calls k 2 _ _ y1194 t1198 t1199 t1202 t1203 _ ?side1 ?side2 A22.out).mono ?_); (case side1 => repeat (first | exact (by repeat (first | (with_reducible exact HR1197.out) | (with_reducible refine Kd.C_alloc ?_ _) | (with_reducible refine Kd.C_drewN ?_ _) | (with_reducible refine Kd.C_drew ?_) | exact HR1197.out)) | (with_reducible refine Kd.C_alloc ?_ _) | (with_reducible refine Kd.C_drewN ?_ _) | (with_reducible refine Kd.C_drew ?_))); (case side2 => exact HC1197.out); rintro e w75 ⟨v1200, rfl, ho0, hb⟩; refine ⟨_, rfl, ?_⟩; replace HO1122 := Aside0.mk (Kd.R_below (Kd.rU HO1122.out) hb); replace HO1139 := Aside0.mk (Kd.R_below (Kd.rU HO1139.out) hb); replace HO1173 := Aside0.mk (Kd.R_below (Kd.rU HO1173.out) hb); replace HO1201 := Aside0.mk (Kd.R_lower (Kd.R_new' (Kd.R_new' (Kd.R_new' ho0 (Kd.R_lt (Kd.rU HO1169.out))) (Kd.R_lt (Kd.rU HO1179.out))) (Kd.R_lt (Kd.rU HO1190.out))) (below_size (hU HB.out))); replace HO1169 := Aside0.mk (Kd.R_elder' (Kd.rU HO1169.out) (Kd.R_base ho0) hb); replace HO1179 := Aside0.mk (Kd.R_elder' (Kd.rU HO1179.out) (Kd.R_base ho0) hb); replace HO1190 := Aside0.mk (Kd.R_elder' (Kd.rU HO1190.out) (Kd.R_base ho0) hb); replace BK1170 := Aside0.mk (blk_below (bU BK1170.out) hb); replace BK1182 := Aside0.mk (blk_below (bU BK1182.out) hb); replace BK1193 := Aside0.mk (blk_below (bU BK1193.out) hb); replace HR1197 := Aside0.mk (Kd.C_below (by repeat (first | (with_reducible exact HR1197.out) | (with_reducible refine Kd.C_alloc ?_ _) | (with_reducible refine Kd.C_drewN ?_ _) | (with_reducible refine Kd.C_drew ?_) | exact HR1197.out)) hb); replace HB := Aside0.mk (below_step (hU HB.out) hb); (try clear hb); (try clear hb2); (try clear hk); (try clear hi); (try clear ho0)) | ((with_reducible refine gate_dst (N := 12) rfl ?_); (try (refine gate_guard (by rfl) ?_; dsimp only)); refine box_event ?hg (N := 12) ?hd (cs := #[.int .i64 0, .slice none 0 0]) (t := 24) ?hr ?_; (case hd => rfl); (case hg => rfl); (case hr => first | (go_simp; done) | (go_simp; rfl)); intro gb1204 hg w76 hbox hb; have n0_ := Aside0.mk (Kd.R_below (Kd.rU HO1122.out) hb); have n1_ := Aside0.mk (Kd.R_below (Kd.rU HO1139.out) hb); have n2_ := Aside0.mk (Kd.R_below (Kd.rU HO1169.out) hb); have n3_ := Aside0.mk (Kd.R_below (Kd.rU HO1173.out) hb); have n4_ := Aside0.mk (Kd.R_below (Kd.rU HO1179.out) hb); have n5_ := Aside0.mk (Kd.R_below (Kd.rU HO1190.out) hb); have n6_ := Aside0.mk (Kd.R_below (Kd.rU HO1201.out) hb); have n7_ := Aside0.mk (blk_below (bU BK1170.out) hb); have n8_ := Aside0.mk (blk_below (bU BK1182.out) hb); have n9_ := Aside0.mk (blk_below (bU BK1193.out) hb); have n10_ := Aside0.mk (below_step (hU HB.out) hb); have n11_ := Aside0.mk (hbox); have n12_ := Aside0.mk ((by rw [hg]; exact (below_size (hU HB.out)) : w.heap.size ≤ gb1204)); have n13_ := Aside0.mk ((by rw [hg]; exact (below_size (hU HB.out)) : w.heap.size ≤ gb1204)); have n14_ := Aside0.mk ((by rw [hg]; exact Nat.ne_of_lt (blk_lt (bU BK1170.out)) : gb1170 ≠ gb1204)); have n15_ := Aside0.mk ((by rw [hg]; exact Nat.ne_of_gt (blk_lt (bU BK1170.out)) : gb1204 ≠ gb1170)); have n16_ := Aside0.mk ((by rw [hg]; exact Nat.ne_of_lt (blk_lt (bU BK1182.out)) : gb1182 ≠ gb1204)); have n17_ := Aside0.mk ((by rw [hg]; exact Nat.ne_of_gt (blk_lt (bU BK1182.out)) : gb1204 ≠ gb1182)); have n18_ := Aside0.mk ((by rw [hg]; exact Nat.ne_of_lt (blk_lt (bU BK1193.out)) : gb1193 ≠ gb1204)); have n19_ := Aside0.mk ((by rw [hg]; exact Nat.ne_of_gt (blk_lt (bU BK1193.out)) : gb1204 ≠ gb1193)); clear HO1122; clear HO1139; clear HO1169; clear HO1173; clear HO1179; clear HO1190; clear HO1201; clear BK1170; clear BK1182; clear BK1193; clear HB; have HO1122 := n0_; have HO1139 := n1_; have HO1169 := n2_; have HO1173 := n3_; have HO1179 := n4_; have HO1190 := n5_; have HO1201 := n6_; have BK1170 := n7_; have BK1182 := n8_; have BK1193 := n9_; have HB := n10_; have BK1204 := n11_; have GW1204 := n12_; have GE1204 := n13_; have NB1170_1204 := n14_; have NB1204_1170 := n15_; have NB1182_1204 := n16_; have NB1204_1182 := n17_; have NB1193_1204 := n18_; have NB1204_1193 := n19_; clear n0_ n1_ n2_ n3_ n4_ n5_ n6_ n7_ n8_ n9_ n10_ n11_ n12_ n13_ n14_ n15_ n16_ n17_ n18_ n19_; clear hb hbox hg; have hnb77 := NB1204_1170.out; have hnc77 := NB1170_1204.out; have hnb78 := NB1204_1182.out; have hnc78 := NB1182_1204.out; have hnb79 := NB1204_1193.out; have hnc79 := NB1193_1204.out; have hcz80_0 := blk_cell BK1204.out; have hfz80_0 := blk_frozen BK1204.out; obtain ⟨Ao81, co81, eo81⟩ := Kd.R_slice HO1201.out; subst eo81))
 have n0_ : Aside0 (Kd.R (Kd.int .u8) 5 ((w76.setCell ⟨gb1204, 0, none⟩ (.int .i64 t1198)).setCell ⟨gb1204, 1, none⟩ (.slice Ao81 t1199.length co81)) w.heap.size (fun k_ => some k_ ≠ (.slice Ao58 t1137.length co58 : Value).ownBlock ∧ some k_ ≠ (.slice Ao59 t1171.length co59 : Value).ownBlock) (.slice Ao48 t1120.length co48) t1120) := ⟨by (with_reducible repeat (first | apply Kd.R_alloc | apply Kd.R_drewN | apply Kd.R_drew)); exact Kd.R_mono (Kd.R_far (p := ⟨gb1204, 1, none⟩) (Kd.R_far (p := ⟨gb1204, 0, none⟩) (Kd.R_types HO1122.out BK1204.out (by decide)) (fun _ hk => hk.2) (.int .i64 t1198)) (fun _ hk => hk.2) (.slice Ao81 t1199.length co81)) (fun _ hk => by revert hk; simp only [and_imp]; intros; (repeat' apply And.intro) <;> assumption)⟩
 have n1_ : Aside0 (Kd.R (Kd.int .u8) 5 ((w76.setCell ⟨gb1204, 0, none⟩ (.int .i64 t1198)).setCell ⟨gb1204, 1, none⟩ (.slice Ao81 t1199.length co81)) w.heap.size (fun k_ => some k_ ≠ (.slice Ao48 t1120.length co48 : Value).ownBlock ∧ some k_ ≠ (.slice Ao59 t1171.length co59 : Value).ownBlock) (.slice Ao58 t1137.length co58) t1137) := ⟨by (with_reducible repeat (first | apply Kd.R_alloc | apply Kd.R_drewN | apply Kd.R_drew)); exact Kd.R_mono (Kd.R_far (p := ⟨gb1204, 1, none⟩) (Kd.R_far (p := ⟨gb1204, 0, none⟩) (Kd.R_types HO1139.out BK1204.out (by decide)) (fun _ hk => hk.2) (.int .i64 t1198)) (fun _ hk => hk.2) (.slice Ao81 t1199.length co81)) (fun _ hk => by revert hk; simp only [and_imp]; intros; (repeat' apply And.intro) <;> assumption)⟩
 have n2_ : Aside0 (Kd.R k30 30 ((w76.setCell ⟨gb1204, 0, none⟩ (.int .i64 t1198)).setCell ⟨gb1204, 1, none⟩ (.slice Ao81 t1199.length co81)) w.heap.size (fun k_ => some k_ ≠ (.slice Ao64 t1177.length co64 : Value).ownBlock ∧ some k_ ≠ (.slice Ao72 t1188.length co72 : Value).ownBlock ∧ some k_ ≠ (.slice Ao81 t1199.length co81 : Value).ownBlock) (.slice Ao54 y1167.length co54) y1167) := ⟨by (with_reducible repeat (first | apply Kd.R_alloc | apply Kd.R_drewN | apply Kd.R_drew)); exact Kd.R_mono (Kd.R_far (p := ⟨gb1204, 1, none⟩) (Kd.R_far (p := ⟨gb1204, 0, none⟩) (Kd.R_types HO1169.out BK1204.out (by decide)) (fun _ hk => hk.2) (.int .i64 t1198)) (fun _ hk => hk.2) (.slice Ao81 t1199.length co81)) (fun _ hk => by revert hk; simp only [and_imp]; intros; (repeat' apply And.intro) <;> assumption)⟩
 have n3_ : Aside0 (Kd.R (Kd.int .u8) 5 ((w76.setCell ⟨gb1204, 0, none⟩ (.int .i64 t1198)).setCell ⟨gb1204, 1, none⟩ (.slice Ao81 t1199.length co81)) w.heap.size (fun k_ => some k_ ≠ (.slice Ao48 t1120.length co48 : Value).ownBlock ∧ some k_ ≠ (.slice Ao58 t1137.length co58 : Value).ownBlock) (.slice Ao59 t1171.length co59) t1171) := ⟨by (with_reducible repeat (first | apply Kd.R_alloc | apply Kd.R_drewN | apply Kd.R_drew)); exact Kd.R_mono (Kd.R_far (p := ⟨gb1204, 1, none⟩) (Kd.R_far (p := ⟨gb1204, 0, none⟩) (Kd.R_types HO1173.out BK1204.out (by decide)) (fun _ hk => hk.2) (.int .i64 t1198)) (fun _ hk => hk.2) (.slice Ao81 t1199.length co81)) (fun _ hk => by revert hk; simp only [and_imp]; intros; (repeat' apply And.intro) <;> assumption)⟩
 have n4_ : Aside0 (Kd.R k30 30 ((w76.setCell ⟨gb1204, 0, none⟩ (.int .i64 t1198)).setCell ⟨gb1204, 1, none⟩ (.slice Ao81 t1199.length co81)) w.heap.size (fun k_ => some k_ ≠ (.slice Ao54 y1167.length co54 : Value).ownBlock ∧ some k_ ≠ (.slice Ao72 t1188.length co72 : Value).ownBlock ∧ some k_ ≠ (.slice Ao81 t1199.length co81 : Value).ownBlock) (.slice Ao64 t1177.length co64) t1177) := ⟨by (with_reducible repeat (first | apply Kd.R_alloc | apply Kd.R_drewN | apply Kd.R_drew)); exact Kd.R_mono (Kd.R_far (p := ⟨gb1204, 1, none⟩) (Kd.R_far (p := ⟨gb1204, 0, none⟩) (Kd.R_types HO1179.out BK1204.out (by decide)) (fun _ hk => hk.2) (.int .i64 t1198)) (fun _ hk => hk.2) (.slice Ao81 t1199.length co81)) (fun _ hk => by revert hk; simp only [and_imp]; intros; (repeat' apply And.intro) <;> assumption)⟩
 have n5_ : Aside0 (Kd.R k30 30 ((w76.setCell ⟨gb1204, 0, none⟩ (.int .i64 t1198)).setCell ⟨gb1204, 1, none⟩ (.slice Ao81 t1199.length co81)) w.heap.size (fun k_ => some k_ ≠ (.slice Ao54 y1167.length co54 : Value).ownBlock ∧ some k_ ≠ (.slice Ao64 t1177.length co64 : Value).ownBlock ∧ some k_ ≠ (.slice Ao81 t1199.length co81 : Value).ownBlock) (.slice Ao72 t1188.length co72) t1188) := ⟨by (with_reducible repeat (first | apply Kd.R_alloc | apply Kd.R_drewN | apply Kd.R_drew)); exact Kd.R_mono (Kd.R_far (p := ⟨gb1204, 1, none⟩) (Kd.R_far (p := ⟨gb1204, 0, none⟩) (Kd.R_types HO1190.out BK1204.out (by decide)) (fun _ hk => hk.2) (.int .i64 t1198)) (fun _ hk => hk.2) (.slice Ao81 t1199.length co81)) (fun _ hk => by revert hk; simp only [and_imp]; intros; (repeat' apply And.intro) <;> assumption)⟩
 have n6_ : Aside0 (Kd.R k30 30 ((w76.setCell ⟨gb1204, 0, none⟩ (.int .i64 t1198)).setCell ⟨gb1204, 1, none⟩ (.slice Ao81 t1199.length co81)) w.heap.size (fun k_ => some k_ ≠ (.slice Ao54 y1167.length co54 : Value).ownBlock ∧ some k_ ≠ (.slice Ao64 t1177.length co64 : Value).ownBlock ∧ some k_ ≠ (.slice Ao72 t1188.length co72 : Value).ownBlock) (.slice Ao81 t1199.length co81) t1199) := ⟨by (with_reducible repeat (first | apply Kd.R_alloc | apply Kd.R_drewN | apply Kd.R_drew)); exact Kd.R_mono (Kd.R_far (p := ⟨gb1204, 1, none⟩) (Kd.R_far (p := ⟨gb1204, 0, none⟩) (Kd.R_types HO1201.out BK1204.out (by decide)) (fun _ hk => hk.2) (.int .i64 t1198)) (fun _ hk => hk.2) (.slice Ao81 t1199.length co81)) (fun _ hk => by revert hk; simp only [and_imp]; intros; (repeat' apply And.intro) <;> assumption)⟩
 have n7_ : Aside0 (((w76.setCell ⟨gb1204, 0, none⟩ (.int .i64 t1198)).setCell ⟨gb1204, 1, none⟩ (.slice Ao81 t1199.length co81)).heap[gb1170]? = some (.cells #[.int .i64 2, .slice Ao54 y1167.length co54] 24 (0, 0))) := ⟨by (with_reducible repeat (first | refine blk_drewN ?_ _ | refine blk_drew ?_ | refine blk_alloc ?_ _)); refine (Below.heap_setCell _ ⟨_, _, none⟩ _ _ NB1170_1204.out).trans ?_; (with_reducible repeat (first | refine blk_drewN ?_ _ | refine blk_drew ?_ | refine blk_alloc ?_ _)); refine (Below.heap_setCell _ ⟨_, _, none⟩ _ _ NB1170_1204.out).trans ?_; (with_reducible repeat (first | refine blk_drewN ?_ _ | refine blk_drew ?_ | refine blk_alloc ?_ _)); exact BK1170.out⟩
 have n8_ : Aside0 (((w76.setCell ⟨gb1204, 0, none⟩ (.int .i64 t1198)).setCell ⟨gb1204, 1, none⟩ (.slice Ao81 t1199.length co81)).heap[gb1182]? = some (.cells #[.int .i64 t1176, .slice Ao64 t1177.length co64] 24 (0, 0))) := ⟨by (with_reducible repeat (first | refine blk_drewN ?_ _ | refine blk_drew ?_ | refine blk_alloc ?_ _)); refine (Below.heap_setCell _ ⟨_, _, none⟩ _ _ NB1182_1204.out).trans ?_; (with_reducible repeat (first | refine blk_drewN ?_ _ | refine blk_drew ?_ | refine blk_alloc ?_ _)); refine (Below.heap_setCell _ ⟨_, _, none⟩ _ _ NB1182_1204.out).trans ?_; (with_reducible repeat (first | refine blk_drewN ?_ _ | refine blk_drew ?_ | refine blk_alloc ?_ _)); exact BK1182.out⟩
 have n9_ : Aside0 (((w76.setCell ⟨gb1204, 0, none⟩ (.int .i64 t1198)).setCell ⟨gb1204, 1, none⟩ (.slice Ao81 t1199.length co81)).heap[gb1193]? = some (.cells #[.int .i64 t1187, .slice Ao72 t1188.length co72] 24 (0, 0))) := ⟨by (with_reducible repeat (first | refine blk_drewN ?_ _ | refine blk_drew ?_ | refine blk_alloc ?_ _)); refine (Below.heap_setCell _ ⟨_, _, none⟩ _ _ NB1193_1204.out).trans ?_; (with_reducible repeat (first | refine blk_drewN ?_ _ | refine blk_drew ?_ | refine blk_alloc ?_ _)); refine (Below.heap_setCell _ ⟨_, _, none⟩ _ _ NB1193_1204.out).trans ?_; (with_reducible repeat (first | refine blk_drewN ?_ _ | refine blk_drew ?_ | refine blk_alloc ?_ _)); exact BK1193.out⟩
 have n10_ : Aside0 (((w76.setCell ⟨gb1204, 0, none⟩ (.int .i64 t1198)).setCell ⟨gb1204, 1, none⟩ (.slice Ao81 t1199.length co81)).heap[gb1204]? = some (.cells #[.int .i64 t1198, .slice Ao81 t1199.length co81] 24 (0, 0))) := ⟨by (with_reducible repeat (first | refine blk_drewN ?_ _ | refine blk_drew ?_ | refine blk_alloc ?_ _)); refine blk_put (cs := #[.int .i64 t1198, .slice none 0 0]) ?_ 1 _ rfl; (with_reducible repeat (first | refine blk_drewN ?_ _ | refine blk_drew ?_ | refine blk_alloc ?_ _)); refine blk_put (cs := #[.int .i64 0, .slice none 0 0]) ?_ 0 _ rfl; (with_reducible repeat (first | refine blk_drewN ?_ _ | refine blk_drew ?_ | refine blk_alloc ?_ _)); exact BK1204.out⟩
 have n11_ : Aside0 (Below w.heap.size w ((w76.setCell ⟨gb1204, 0, none⟩ (.int .i64 t1198)).setCell ⟨gb1204, 1, none⟩ (.slice Ao81 t1199.length co81))) := ⟨hU HB.out⟩
 (try clear HO1122)
 (try clear HO1139)
 (try clear HO1169)
 (try clear HO1173)
 (try clear HO1179)
 (try clear HO1190)
 (try clear HO1201)
 (try clear BK1170)
 (try clear BK1182)
 (try clear BK1193)
 (try clear BK1204)
 (try clear HB)
 generalize ((w76.setCell ⟨gb1204, 0, none⟩ (.int .i64 t1198)).setCell ⟨gb1204, 1, none⟩ (.slice Ao81 t1199.length co81)) = w82 at n0_ n1_ n2_ n3_ n4_ n5_ n6_ n7_ n8_ n9_ n10_ n11_ ⊢
 have HO1122 := n0_
 have HO1139 := n1_
 have HO1169 := n2_
 have HO1173 := n3_
 have HO1179 := n4_
 have HO1190 := n5_
 have HO1201 := n6_
 have BK1170 := n7_
 have BK1182 := n8_
 have BK1193 := n9_
 have BK1204 := n10_
 have HB := n11_
 clear n0_ n1_ n2_ n3_ n4_ n5_ n6_ n7_ n8_ n9_ n10_ n11_
 have n0_ := Aside0.mk (Kd.R_drew HO1122.out)
 have n1_ := Aside0.mk (Kd.R_drew HO1139.out)
 have n2_ := Aside0.mk (Kd.R_drew HO1169.out)
 have n3_ := Aside0.mk (Kd.R_drew HO1173.out)
 have n4_ := Aside0.mk (Kd.R_drew HO1179.out)
 have n5_ := Aside0.mk (Kd.R_drew HO1190.out)
 have n6_ := Aside0.mk (Kd.R_drew HO1201.out)
 have n7_ := Aside0.mk (blk_drew BK1170.out)
 have n8_ := Aside0.mk (blk_drew BK1182.out)
 have n9_ := Aside0.mk (blk_drew BK1193.out)
 have n10_ := Aside0.mk (blk_drew BK1204.out)
 have n11_ := Aside0.mk (below_drew1 HB.out)
 clear HO1122
 clear HO1139
 clear HO1169
 clear HO1173
 clear HO1179
 clear HO1190
 clear HO1201
 clear BK1170
 clear BK1182
 clear BK1193
 clear BK1204
 clear HB
 have HO1122 := n0_
 have HO1139 := n1_
 have HO1169 := n2_
 have HO1173 := n3_
 have HO1179 := n4_
 have HO1190 := n5_
 have HO1201 := n6_
 have BK1170 := n7_
 have BK1182 := n8_
 have BK1193 := n9_
 have BK1204 := n10_
 have HB := n11_
 clear n0_ n1_ n2_ n3_ n4_ n5_ n6_ n7_ n8_ n9_ n10_ n11_
 refine start_ (n := 47) (S := fun w' => w'.cell? ⟨gb1182, 0, none⟩ = some (.int .i64 t1176) ∧ w'.cell? ⟨gb1182, 1, none⟩ = some (.slice Ao64 t1177.length co64) ∧ w'.cell? ⟨gb1170, 0, none⟩ = some (.int .i64 2) ∧ w'.cell? ⟨gb1170, 1, none⟩ = some (.slice Ao54 y1167.length co54) ∧ w'.cell? ⟨gb1193, 0, none⟩ = some (.int .i64 t1187) ∧ w'.cell? ⟨gb1193, 1, none⟩ = some (.slice Ao72 t1188.length co72) ∧ w'.cell? ⟨gb1204, 0, none⟩ = some (.int .i64 t1198) ∧ w'.cell? ⟨gb1204, 1, none⟩ = some (.slice Ao81 t1199.length co81)) (ds := []) #[false, false, false, false, false, false, false, false, false, false, false, false, false, false, false, false, false, false, false, false, false, false, false, false, false, false, false, false, false, false, false, false, false, false, false, false, false, false, false, false, false, false, false, false, false, false, false] (by kernel_rfl) rfl rfl ⟨(blk_cell BK1182.out 0).trans rfl, (blk_cell BK1182.out 1).trans rfl, (blk_cell BK1170.out 0).trans rfl, (blk_cell BK1170.out 1).trans rfl, (blk_cell BK1193.out 0).trans rfl, (blk_cell BK1193.out 1).trans rfl, (blk_cell BK1204.out 0).trans rfl, (blk_cell BK1204.out 1).trans rfl⟩ (fun hHeld => ?_); refine with_tabW dancestudiolaw58_awake.tab10 dancestudiolaw58_awake.bits10 (fun HT_ HW_ => ?_)
 generalize w82.drew = w83 at HO1122 HO1139 HO1169 HO1173 HO1179 HO1190 HO1201 BK1170 BK1182 BK1193 BK1204 HB hHeld ⊢
 refine puA 0 88 (bs 47 1) ?_
 refine puA 1 89 (bs 47 3) ?_
 refine puA 2 90 (bs 47 7) ?_
 refine puA 3 91 (bs 47 15) ?_
 refine puA 4 92 (bs 47 31) ?_
 refine puA 5 93 (bs 47 63) ?_
 refine puA 6 94 (bs 47 127) ?_
 refine puA 7 95 (bs 47 255) ?_
 refine puA 8 96 (bs 47 511) ?_
 refine puA 9 97 (bs 47 1023) ?_
 refine puA 10 98 (bs 47 2047) ?_
 refine tkA 11 99 (bs 47 4095) hHeld ?_
 refine tkA 12 100 (bs 47 8191) hHeld ?_
 refine one_ (i := 13) (N := some 101) (bs 47 16383) rfl rfl (one_of HT_.out (by kernel_rfl)) (by decide) (fun K hK => ?_)
 refine goes_ Try.func43 (by kernel_rfl) rfl #[.agg #[.int .i64 t1176, .slice Ao64 t1177.length co64], .agg #[.int .i64 2, .slice Ao54 y1167.length co54]] (by rfl) rfl rfl (by (try simp only [List.map_toArray, List.map_cons, List.map_nil]); first | done | rfl | (simp only [List.length_drop, List.length_take]; rfl)) ?_
 with_reducible refine (dancestudioref58_Same.calls k t1176 _ _ t1177 2 _ _ y1167 true _ ?side1 ?side2 ?side3 ?side4 A26.out).mono ?_
 (case side1 => repeat (first | exact (Kd.R_reads' HO1179.out).2.2 | (with_reducible refine Kd.C_alloc ?_ _) | (with_reducible refine Kd.C_drewN ?_ _) | (with_reducible refine Kd.C_drew ?_)))
 (case side2 => exact (Kd.R_reads' HO1179.out).2.1)
 (case side3 => repeat (first | exact (Kd.R_reads' HO1169.out).2.2 | (with_reducible refine Kd.C_alloc ?_ _) | (with_reducible refine Kd.C_drewN ?_ _) | (with_reducible refine Kd.C_drew ?_)))
 (case side4 => exact (Kd.R_reads' HO1169.out).2.1)
 rintro e w84 ⟨rfl, hb⟩
 refine ⟨_, rfl, ?_⟩
 replace HO1122 := Aside0.mk (Kd.R_below (Kd.rU HO1122.out) hb)
 replace HO1139 := Aside0.mk (Kd.R_below (Kd.rU HO1139.out) hb)
 replace HO1169 := Aside0.mk (Kd.R_below (Kd.rU HO1169.out) hb)
 replace HO1173 := Aside0.mk (Kd.R_below (Kd.rU HO1173.out) hb)
 replace HO1179 := Aside0.mk (Kd.R_below (Kd.rU HO1179.out) hb)
 replace HO1190 := Aside0.mk (Kd.R_below (Kd.rU HO1190.out) hb)
 replace HO1201 := Aside0.mk (Kd.R_below (Kd.rU HO1201.out) hb)
 replace BK1170 := Aside0.mk (blk_below (bU BK1170.out) hb)
 replace BK1182 := Aside0.mk (blk_below (bU BK1182.out) hb)
 replace BK1193 := Aside0.mk (blk_below (bU BK1193.out) hb)
 replace BK1204 := Aside0.mk (blk_below (bU BK1204.out) hb)
 replace HB := Aside0.mk (below_step (hU HB.out) hb)
 (try clear hb)
 (try clear hb2)
 (try clear hk)
 (try clear hi)
 have q85 : (1 : Int) ≤ ((y1167.length : Int) : Int) := of_decide_eq_true (by first | (with_reducible assumption) | assumption)
 obtain ⟨i085, hi085, _, hsz85, _⟩ := info_parts info30
 have hroom85 : y1167.length ≤ co54 := (Kd.R_reads' HO1169.out).2.1
 have hC85 : Kd.C k30 _ Ao54 y1167.length y1167 := (Kd.R_reads' HO1169.out).2.2
 have hcut85 := cut_to (P := Try.prog) 22 30 .i64 Try.underlying22 hi085 Ao54 y1167.length co54 1 (by omega) q85 hroom85
 have hr85 := Kd.C_take (m := 1) hC85 (by omega)
 have hy85 : y1206.length = (1 : Int).toNat := (by rw [Ny1206.out, List.length_take]; omega)
 rw [← Ny1206.out] at hr85
 rw [← hy85] at hcut85
 have HR1209 := Aside0.mk hr85
 have HC1209 := Aside0.mk (show y1206.length ≤ co54 from by omega)
 clear hr85 hC85 hroom85 hi085 hsz85
 have KY85 := Aside0.mk hy85
 clear hy85
 have KL85 := Aside0.mk (show 1 ≤ y1167.length from by omega)
 replace q85 := eq_true q85
 refine hK.out _ _ ⟨(blk_cell BK1182.out 0).trans rfl, (blk_cell BK1182.out 1).trans rfl, (blk_cell BK1170.out 0).trans rfl, (blk_cell BK1170.out 1).trans rfl, (blk_cell BK1193.out 0).trans rfl, (blk_cell BK1193.out 1).trans rfl, (blk_cell BK1204.out 0).trans rfl, (blk_cell BK1204.out 1).trans rfl⟩ (fun hHeld => ?_)
 clear hK K
 refine nmA 101 ?_
 refine puA 14 102 (bs 47 32767) ?_
 refine puA 15 103 (bs 47 65535) ?_
 refine puA 16 104 (bs 47 131071) ?_
 refine puA 17 105 (bs 47 262143) ?_
 refine puA 18 106 (bs 47 524287) ?_
 refine puA 19 107 (bs 47 1048575) ?_
 refine puA 20 108 (bs 47 2097151) ?_
 refine puA 21 109 (bs 47 4194303) ?_
 refine puA 22 110 (bs 47 8388607) ?_
 refine puA 24 112 (bs 47 25165823) ?_
 refine tkA 23 111 (bs 47 33554431) hHeld ?_
 refine tkA 25 113 (bs 47 67108863) hHeld ?_
 refine puA 26 114 (bs 47 134217727) ?_
 refine puA 27 115 (bs 47 268435455) ?_
 refine one_ (i := 28) (N := some 116) (bs 47 536870911) rfl rfl (one_of HT_.out (by kernel_rfl)) (by decide) (fun K hK => ?_)
 refine goes_ Try.func43 (by kernel_rfl) rfl #[.agg #[.int .i64 t1187, .slice Ao72 t1188.length co72], .agg #[.int .i64 2, .slice Ao54 y1206.length co54]] (by rfl) rfl rfl (by (try simp only [List.map_toArray, List.map_cons, List.map_nil]); first | done | rfl | (simp only [List.length_drop, List.length_take]; rfl)) ?_
 with_reducible refine (dancestudioref58_Same.calls k t1187 _ _ t1188 2 _ _ y1206 true _ ?side1 ?side2 ?side3 ?side4 A30.out).mono ?_
 (case side1 => repeat (first | exact (Kd.R_reads' HO1190.out).2.2 | (with_reducible refine Kd.C_alloc ?_ _) | (with_reducible refine Kd.C_drewN ?_ _) | (with_reducible refine Kd.C_drew ?_)))
 (case side2 => exact (Kd.R_reads' HO1190.out).2.1)
 (case side3 => repeat (first | exact (by repeat (first | (with_reducible exact HR1209.out) | (with_reducible refine Kd.C_alloc ?_ _) | (with_reducible refine Kd.C_drewN ?_ _) | (with_reducible refine Kd.C_drew ?_) | exact HR1209.out)) | (with_reducible refine Kd.C_alloc ?_ _) | (with_reducible refine Kd.C_drewN ?_ _) | (with_reducible refine Kd.C_drew ?_)))
 (case side4 => exact HC1209.out)
 rintro e w86 ⟨rfl, hb⟩
 refine ⟨_, rfl, ?_⟩
 replace HO1122 := Aside0.mk (Kd.R_below (Kd.rU HO1122.out) hb)
 replace HO1139 := Aside0.mk (Kd.R_below (Kd.rU HO1139.out) hb)
 replace HO1169 := Aside0.mk (Kd.R_below (Kd.rU HO1169.out) hb)
 replace HO1173 := Aside0.mk (Kd.R_below (Kd.rU HO1173.out) hb)
 replace HO1179 := Aside0.mk (Kd.R_below (Kd.rU HO1179.out) hb)
 replace HO1190 := Aside0.mk (Kd.R_below (Kd.rU HO1190.out) hb)
 replace HO1201 := Aside0.mk (Kd.R_below (Kd.rU HO1201.out) hb)
 replace BK1170 := Aside0.mk (blk_below (bU BK1170.out) hb)
 replace BK1182 := Aside0.mk (blk_below (bU BK1182.out) hb)
 replace BK1193 := Aside0.mk (blk_below (bU BK1193.out) hb)
 replace BK1204 := Aside0.mk (blk_below (bU BK1204.out) hb)
 replace HR1209 := Aside0.mk (Kd.C_below (by repeat (first | (with_reducible exact HR1209.out) | (with_reducible refine Kd.C_alloc ?_ _) | (with_reducible refine Kd.C_drewN ?_ _) | (with_reducible refine Kd.C_drew ?_) | exact HR1209.out)) hb)
 replace HB := Aside0.mk (below_step (hU HB.out) hb)
 (try clear hb)
 (try clear hb2)
 (try clear hk)
 (try clear hi)
 refine hK.out _ _ ⟨(blk_cell BK1182.out 0).trans rfl, (blk_cell BK1182.out 1).trans rfl, (blk_cell BK1170.out 0).trans rfl, (blk_cell BK1170.out 1).trans rfl, (blk_cell BK1193.out 0).trans rfl, (blk_cell BK1193.out 1).trans rfl, (blk_cell BK1204.out 0).trans rfl, (blk_cell BK1204.out 1).trans rfl⟩ (fun hHeld => ?_)
 clear hK K
 refine nmA 116 ?_
 refine puA 29 117 (bs 47 1073741823) ?_
 refine puA 30 118 (bs 47 2147483647) ?_
 refine puA 31 119 (bs 47 4294967295) ?_
 refine puA 32 120 (bs 47 8589934591) ?_
 refine puA 33 121 (bs 47 17179869183) ?_
 refine puA 34 122 (bs 47 34359738367) ?_
 refine puA 35 123 (bs 47 68719476735) ?_
 refine puA 36 124 (bs 47 137438953471) ?_
 refine puA 37 125 (bs 47 274877906943) ?_
 refine puA 38 126 (bs 47 549755813887) ?_
 refine tkA 39 127 (bs 47 1099511627775) hHeld ?_
 refine puA 40 128 (bs 47 2199023255551) ?_
 refine puA 41 129 (bs 47 4398046511103) ?_
 refine puA 42 130 (bs 47 8796093022207) ?_
 refine puA 43 131 (bs 47 17592186044415) ?_
 refine puA 44 132 (bs 47 35184372088831) ?_
 refine puA 45 133 (bs 47 70368744177663) ?_
 refine puA 46 134 (bs 47 140737488355327) ?_
 refine done_ (done_of HT_.out (by kernel_rfl)) ?_
 try go_wp2_with (first | ((with_reducible refine gate_callee (f := 80) rfl ?_); refine goesL_ (some 136) rfl rfl Try.func80 (by kernel_rfl) rfl #[.int .i64 1, .int .i64 24] rfl (by (try simp only [List.map_toArray, List.map_cons, List.map_nil]); first | done | rfl | (simp only [List.length_drop, List.length_take]; rfl)) ?_; (with_reducible refine (dancestudiolaw58_hold.calls 1 24 t1211 t1212 t1213 t1214 t1215 t1216 t1217 t1218 t1219 t1220 t1221 t1222 t1223 _ A35.out).mono ?_); rintro e w87 ⟨rfl, hb⟩; refine ⟨_, rfl, ?_⟩; replace HO1122 := Aside0.mk (Kd.R_below (Kd.rU HO1122.out) hb); replace HO1139 := Aside0.mk (Kd.R_below (Kd.rU HO1139.out) hb); replace HO1173 := Aside0.mk (Kd.R_below (Kd.rU HO1173.out) hb); replace HB := Aside0.mk (below_step (hU HB.out) hb); (try clear hb); (try clear hb2); (try clear hk); (try clear hi)) | ((with_reducible refine gate_callee (f := 80) rfl ?_); refine goesL_ (some 137) rfl rfl Try.func80 (by kernel_rfl) rfl #[.int .i64 2, .int .i64 12] rfl (by (try simp only [List.map_toArray, List.map_cons, List.map_nil]); first | done | rfl | (simp only [List.length_drop, List.length_take]; rfl)) ?_; (with_reducible refine (dancestudiolaw58_hold.calls 2 12 t1224 t1225 t1226 t1227 t1228 t1229 t1230 t1231 t1232 t1233 t1234 t1235 t1236 _ A36.out).mono ?_); rintro e w88 ⟨rfl, hb⟩; refine ⟨_, rfl, ?_⟩; replace HO1122 := Aside0.mk (Kd.R_below (Kd.rU HO1122.out) hb); replace HO1139 := Aside0.mk (Kd.R_below (Kd.rU HO1139.out) hb); replace HO1173 := Aside0.mk (Kd.R_below (Kd.rU HO1173.out) hb); replace HB := Aside0.mk (below_step (hU HB.out) hb); (try clear hb); (try clear hb2); (try clear hk); (try clear hi)) | ((with_reducible refine gate_callee (f := 81) rfl ?_); refine goesL_ (some 138) rfl rfl Try.func81 (by kernel_rfl) rfl #[] rfl (by (try simp only [List.map_toArray, List.map_cons, List.map_nil]); first | done | rfl | (simp only [List.length_drop, List.length_take]; rfl)) ?_; (with_reducible refine (dancestudiolaw58_drop.calls  t1237 t1238 t1239 t1240 t1241 t1242 t1243 t1244 t1245 t1246 t1247 t1248 t1249 _ A37.out).mono ?_); rintro e w89 ⟨rfl, hb⟩; refine ⟨_, rfl, ?_⟩; replace HO1122 := Aside0.mk (Kd.R_below (Kd.rU HO1122.out) hb); replace HO1139 := Aside0.mk (Kd.R_below (Kd.rU HO1139.out) hb); replace HO1173 := Aside0.mk (Kd.R_below (Kd.rU HO1173.out) hb); replace HB := Aside0.mk (below_step (hU HB.out) hb); (try clear hb); (try clear hb2); (try clear hk); (try clear hi)) | ((with_reducible refine gate_dst (N := 139) rfl ?_); (try (refine gate_guard (by rfl) ?_; dsimp only)); refine Kd.R_lit k30 _ 30 ?hg (N := 139) ?hd (xs := ([(⟨(⟨t1211, t1212⟩ : S26), t1213, (⟨t1214, t1215⟩ : S26), t1216, (⟨t1217, t1218, t1219, t1220, t1221, t1222, t1223⟩ : S28)⟩ : S30), (⟨(⟨t1224, t1225⟩ : S26), t1226, (⟨t1227, t1228⟩ : S26), t1229, (⟨t1230, t1231, t1232, t1233, t1234, t1235, t1236⟩ : S28)⟩ : S30), (⟨(⟨t1237, t1238⟩ : S26), t1239, (⟨t1240, t1241⟩ : S26), t1242, (⟨t1243, t1244, t1245, t1246, t1247, t1248, t1249⟩ : S28)⟩ : S30)] : List (S30))) (inner := [.int .i64 t1211, .int .i64 t1212, .int .i64 t1213, .int .i64 t1214, .int .i64 t1215, .bool t1216, .int .i64 t1217, .int .i64 t1218, .int .i64 t1219, .int .i64 t1220, .int .i64 t1221, .int .i64 t1222, .int .i64 t1223, .int .i64 t1224, .int .i64 t1225, .int .i64 t1226, .int .i64 t1227, .int .i64 t1228, .bool t1229, .int .i64 t1230, .int .i64 t1231, .int .i64 t1232, .int .i64 t1233, .int .i64 t1234, .int .i64 t1235, .int .i64 t1236, .int .i64 t1237, .int .i64 t1238, .int .i64 t1239, .int .i64 t1240, .int .i64 t1241, .bool t1242, .int .i64 t1243, .int .i64 t1244, .int .i64 t1245, .int .i64 t1246, .int .i64 t1247, .int .i64 t1248, .int .i64 t1249]) (ok := fun _ => True) (okp := fun _ => True) ?hr ?hp (fun _ hk => hk) trivial (Below.refl _ _) (Nat.le_refl _) (by simp) ?_; (case hd => rfl); (case hg => rfl); (case hr => first | (go_simp; done) | (go_simp; rfl)); (case hp => exact (Reps.front (show Kd.M k30 _ _ _ (⟨(⟨t1211, t1212⟩ : S26), t1213, (⟨t1214, t1215⟩ : S26), t1216, (⟨t1217, t1218, t1219, t1220, t1221, t1222, t1223⟩ : S28)⟩ : S30) [.int .i64 t1211, .int .i64 t1212, .int .i64 t1213, .int .i64 t1214, .int .i64 t1215, .bool t1216, .int .i64 t1217, .int .i64 t1218, .int .i64 t1219, .int .i64 t1220, .int .i64 t1221, .int .i64 t1222, .int .i64 t1223] from (k30_mkM _ _ _ (⟨(⟨t1211, t1212⟩ : S26), t1213, (⟨t1214, t1215⟩ : S26), t1216, (⟨t1217, t1218, t1219, t1220, t1221, t1222, t1223⟩ : S28)⟩ : S30) )) rfl (Reps.front (show Kd.M k30 _ _ _ (⟨(⟨t1224, t1225⟩ : S26), t1226, (⟨t1227, t1228⟩ : S26), t1229, (⟨t1230, t1231, t1232, t1233, t1234, t1235, t1236⟩ : S28)⟩ : S30) [.int .i64 t1224, .int .i64 t1225, .int .i64 t1226, .int .i64 t1227, .int .i64 t1228, .bool t1229, .int .i64 t1230, .int .i64 t1231, .int .i64 t1232, .int .i64 t1233, .int .i64 t1234, .int .i64 t1235, .int .i64 t1236] from (k30_mkM _ _ _ (⟨(⟨t1224, t1225⟩ : S26), t1226, (⟨t1227, t1228⟩ : S26), t1229, (⟨t1230, t1231, t1232, t1233, t1234, t1235, t1236⟩ : S28)⟩ : S30) )) rfl (Reps.front (show Kd.M k30 _ _ _ (⟨(⟨t1237, t1238⟩ : S26), t1239, (⟨t1240, t1241⟩ : S26), t1242, (⟨t1243, t1244, t1245, t1246, t1247, t1248, t1249⟩ : S28)⟩ : S30) [.int .i64 t1237, .int .i64 t1238, .int .i64 t1239, .int .i64 t1240, .int .i64 t1241, .bool t1242, .int .i64 t1243, .int .i64 t1244, .int .i64 t1245, .int .i64 t1246, .int .i64 t1247, .int .i64 t1248, .int .i64 t1249] from (k30_mkM _ _ _ (⟨(⟨t1237, t1238⟩ : S26), t1239, (⟨t1240, t1241⟩ : S26), t1242, (⟨t1243, t1244, t1245, t1246, t1247, t1248, t1249⟩ : S28)⟩ : S30) )) rfl (Reps.none _ _) rfl) rfl) rfl)); intro v1251 w90 ho91 hb hg_ hnew_; clear hg_ hnew_; (first | rw [← Ny1250.out] at ho91 | (simp only [Int.reduceToNat] at ho91; rw [← Ny1250.out] at ho91)); have n0_ := Aside0.mk (Kd.R_below (Kd.rU HO1122.out) hb); have n1_ := Aside0.mk (Kd.R_below (Kd.rU HO1139.out) hb); have n2_ := Aside0.mk (Kd.R_below (Kd.rU HO1173.out) hb); have n3_ := Aside0.mk (Kd.R_lower ho91 (below_size (hU HB.out))); have n4_ := Aside0.mk (below_step (hU HB.out) hb); clear HO1122; clear HO1139; clear HO1173; clear HB; have HO1122 := n0_; have HO1139 := n1_; have HO1173 := n2_; have HO1252 := n3_; have HB := n4_; clear n0_ n1_ n2_ n3_ n4_; clear hb ho91; obtain ⟨Ao92, co92, eo92⟩ := Kd.R_slice HO1252.out; subst eo92) | ((with_reducible refine gate_callee (f := 46) rfl ?_); refine goesL_ (some 141) rfl rfl Try.func46 (by kernel_rfl) rfl #[.agg #[.int .i64 2, .slice Ao92 y1250.length co92]] rfl (by (try simp only [List.map_toArray, List.map_cons, List.map_nil]); first | done | rfl | (simp only [List.length_drop, List.length_take]; rfl)) ?_; (with_reducible refine (journal_Compact.calls k 2 _ _ y1250 t1253 t1256 _ ?side1 ?side2 A38.out).mono ?_); (case side1 => repeat (first | exact (Kd.R_reads' HO1252.out).2.2 | (with_reducible refine Kd.C_alloc ?_ _) | (with_reducible refine Kd.C_drewN ?_ _) | (with_reducible refine Kd.C_drew ?_))); (case side2 => exact (Kd.R_reads' HO1252.out).2.1); rintro e w93 ⟨v1254, rfl, ho0, hb⟩; refine ⟨_, rfl, ?_⟩; replace HO1252 := Aside0.mk (Kd.R_below (Kd.rU HO1252.out) hb); replace HO1255 := Aside0.mk (Kd.R_lower (Kd.R_new' (Kd.R_new' (Kd.R_new' ho0 (Kd.R_lt (Kd.rU HO1122.out))) (Kd.R_lt (Kd.rU HO1139.out))) (Kd.R_lt (Kd.rU HO1173.out))) (below_size (hU HB.out))); replace HO1122 := Aside0.mk (Kd.R_elder' (Kd.rU HO1122.out) (Kd.R_base ho0) hb); replace HO1139 := Aside0.mk (Kd.R_elder' (Kd.rU HO1139.out) (Kd.R_base ho0) hb); replace HO1173 := Aside0.mk (Kd.R_elder' (Kd.rU HO1173.out) (Kd.R_base ho0) hb); replace HB := Aside0.mk (below_step (hU HB.out) hb); (try clear hb); (try clear hb2); (try clear hk); (try clear hi); (try clear ho0)) | ((with_reducible refine gate_callee (f := 41) rfl ?_); refine goesL_ (some 145) rfl rfl Try.func41 (by kernel_rfl) rfl #[.int .i64 0, .slice none 0 0] rfl (by (try simp only [List.map_toArray, List.map_cons, List.map_nil]); first | done | rfl | (simp only [List.length_drop, List.length_take]; rfl)) ?_; (refine (journal_Recover.calls k 0 _ _ ([] : List Int) t1257 t1258 t1261 t1262 _ ?side1 ?side2 A39.out).mono ?_); (case side1 => exact Kd.C_nil _ _); (case side2 => exact Nat.le_refl _); rintro e w94 ⟨v1259, rfl, ho0, hb⟩; refine ⟨_, rfl, ?_⟩; replace HO1122 := Aside0.mk (Kd.R_below (Kd.rU HO1122.out) hb); replace HO1139 := Aside0.mk (Kd.R_below (Kd.rU HO1139.out) hb); replace HO1173 := Aside0.mk (Kd.R_below (Kd.rU HO1173.out) hb); replace HO1255 := Aside0.mk (Kd.R_below (Kd.rU HO1255.out) hb); replace HO1260 := Aside0.mk (Kd.R_lower ho0 (below_size (hU HB.out))); replace HB := Aside0.mk (below_step (hU HB.out) hb); (try clear hb); (try clear hb2); (try clear hk); (try clear hi); (try clear ho0)) | ((with_reducible refine gate_callee (f := 38) rfl ?_); refine goesL_ (some 151) rfl rfl Try.func38 (by kernel_rfl) rfl #[.slice none 0 0, .agg #[.int .i64 0, .int .i64 0, .int .i64 0, .int .i64 0, .int .i64 0, .bool false, .int .i64 0, .int .i64 0, .int .i64 0, .int .i64 0, .int .i64 0, .int .i64 0, .int .i64 0]] rfl (by (try simp only [List.map_toArray, List.map_cons, List.map_nil]); first | done | rfl | (simp only [List.length_drop, List.length_take]; rfl)) ?_; (refine (journal_Append.calls k _ _ ([] : List Int) 0 0 0 0 0 false 0 0 0 0 0 0 0 t1263 t1266 _ ?side1 ?side2 A40.out).mono ?_); (case side1 => exact Kd.C_nil _ _); (case side2 => exact Nat.le_refl _); rintro e w95 ⟨v1264, rfl, ho0, hb⟩; refine ⟨_, rfl, ?_⟩; replace HO1265 := Aside0.mk (Kd.R_lower (Kd.R_new' (Kd.R_new' (Kd.R_new' (Kd.R_new' ho0 (Kd.R_lt (Kd.rU HO1122.out))) (Kd.R_lt (Kd.rU HO1139.out))) (Kd.R_lt (Kd.rU HO1173.out))) (Kd.R_lt (Kd.rU HO1255.out))) (below_size (hU HB.out))); replace HO1122 := Aside0.mk (Kd.R_elder' (Kd.rU HO1122.out) (Kd.R_base ho0) hb); replace HO1139 := Aside0.mk (Kd.R_elder' (Kd.rU HO1139.out) (Kd.R_base ho0) hb); replace HO1173 := Aside0.mk (Kd.R_elder' (Kd.rU HO1173.out) (Kd.R_base ho0) hb); replace HO1255 := Aside0.mk (Kd.R_elder' (Kd.rU HO1255.out) (Kd.R_base ho0) hb); replace HB := Aside0.mk (below_step (hU HB.out) hb); (try clear hb); (try clear hb2); (try clear hk); (try clear hi); (try clear ho0); obtain ⟨Ao96, co96, eo96⟩ := Kd.R_slice HO1255.out; subst eo96) | (go_at_call 40; (with_reducible refine (dancestudioref58_Bytes.calls _ _ t1253 _ _ t1137 true _ ?side1 ?side2 ?side3 ?side4 A42.out).mono ?_); (case side1 => repeat (first | exact (Kd.R_reads' HO1255.out).2.2 | (with_reducible refine Kd.C_alloc ?_ _) | (with_reducible refine Kd.C_drewN ?_ _) | (with_reducible refine Kd.C_drew ?_))); (case side2 => exact (Kd.R_reads' HO1255.out).2.1); (case side3 => repeat (first | exact (Kd.R_reads' HO1139.out).2.2 | (with_reducible refine Kd.C_alloc ?_ _) | (with_reducible refine Kd.C_drewN ?_ _) | (with_reducible refine Kd.C_drew ?_))); (case side4 => exact (Kd.R_reads' HO1139.out).2.1); rintro e w' ⟨rfl, ⟨nd, rfl⟩⟩))
 go_ret
 exact ⟨by first | rfl | (simp [errW_none, errW_some] <;> rfl) | (simp only [← hji16]; first | rfl | (simp [errW_none, errW_some] <;> rfl)) | (simp [*, errW_none, errW_some] <;> rfl), hU HB.out⟩
end Go.Proofs.Yteopkkoblbmggaa.P
end

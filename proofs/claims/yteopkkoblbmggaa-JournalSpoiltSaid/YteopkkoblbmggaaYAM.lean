/- Texts of this claim in one: P84, Frames, CloneE; no condition. -/
import Derived.Test.YteopkkoblbmggaaYAD
import Derived.Test.YteopkkoblbmggaaYAG
import Derived.Test.YteopkkoblbmggaaYAL
import Derived.Test.YteopkkoblbmggaaYAH
import Derived.RangeFuncNested
import Derived.RangeFuncBound
import Derived.RangeFuncCalls
import Derived.RangeFuncLeaves
import Derived.Shelf.Abstract
import Derived.Shelf.RegionOpen
import Derived.WalkKit
import Derived.OwnWalkIn
import Derived.TacticsInMore
import Derived.LoopNIn
import Derived.LoopIn
import Derived.Deep.Light
import Derived.WalkSpells
import Derived.Laws.Cover3
section
namespace Go.Proofs.Yteopkkoblbmggaa.P
open Go.RowKit Go.Proofs.YteopkkoblbmggaaW.PrintWords Go.Proofs.YteopkkoblbmggaaW.PrintLast Go.Proofs.YteopkkoblbmggaaW.PrintMore
attribute [local go_sem] max2_int min2_int max_two min_two max_three min_three max_four min_four
set_option linter.unusedVariables false
set_option linter.unusedSimpArgs false
/-! ### crc_Open: function 116 -/
def crc_Open.l0 : Nat → List Int → Int → Int → Int → Int → Option (List Int × Int × Int)
 | 0, _, _, _, _, _ => none
 | k + 1, x0, x5, x6, x8, x36 => if x36 < 4 then (if 0 ≤ (wrap64 (x6 + x36)) then (if (wrap64 (x6 + x36)) < (x0.length : Int) then (if 0 ≤ (wrap64 (8 * x36)) then (crc_Open.l0 k x0 x5 x6 (Go.bits .or .u32 x8 (shl .u32 ((rd x0 (wrap64 (x6 + x36))) % 4294967296) (wrap64 (8 * x36)))) (wrap64 (x36 + 1))) else (none)) else (none)) else (none)) else (if 0 ≤ (wrap64 (x6 + 4)) then (if (wrap64 (x6 + 4)) ≤ (wrap64 ((wrap64 (x6 + 4)) + x5)) then (if (wrap64 ((wrap64 (x6 + 4)) + x5)) ≤ (x0.length : Int) then ((slices_Clone_byte_byte.f ((x0.take ((wrap64 ((wrap64 (x6 + 4)) + x5)) : Int).toNat).drop ((wrap64 (x6 + 4)) : Int).toNat)).bind fun t1619 => (if 0 ≤ x6 then (if x6 ≤ (x0.length : Int) then ((crc_Sum.f k (x0.take (x6 : Int).toNat)).bind fun t1623 => ((crc_Extend.f k t1623 t1619).bind fun t1624 => (if t1624 = x8 then (some (t1619, wrap64 ((wrap64 (x6 + 4)) + x5), 0)) else (some (([] : List Int), 0, 14))))) else (none)) else (none))) else (none)) else (none)) else (none))
def crc_Open.f (k : Nat) (l0 : List Int) : Option (List Int × Int × Int) := (wire_TakeInt.f k l0).bind fun bt1614 => (if bt1614.2.2 = 0 then (if bt1614.1 < 0 then (some (([] : List Int), 0, 2)) else (if bt1614.1 > 65536 then (some (([] : List Int), 0, 3)) else (if (wrap64 ((l0.length : Int) - bt1614.2.1)) < (wrap64 (4 + bt1614.1)) then (some (([] : List Int), 0, 13)) else (crc_Open.l0 k l0 bt1614.1 bt1614.2.1 0 0)))) else (some (([] : List Int), 0, bt1614.2.2)))
theorem crc_Open.mono_l : ∀ k, (∀ y0 y1 y2 y3 y4, LeO (crc_Open.l0 k y0 y1 y2 y3 y4) (crc_Open.l0 (k + 1) y0 y1 y2 y3 y4))
 | 0 => fun _ _ _ _ _ r h => by simp [crc_Open.l0] at h
 | k + 1 => by
  have ih0 := crc_Open.mono_l k
  ·intro y0 y1 y2 y3 y4
   unfold crc_Open.l0
   repeat' first
   | (with_reducible exact ih0 _ _ _ _ _)
   | (with_reducible exact crc_Extend.mono _ _ _)
   | (with_reducible exact crc_Sum.mono _ _)
   | (with_reducible exact wire_TakeInt.mono _ _)
   | (with_reducible exact LeO.refl _)
   | (with_reducible exact LeO.none _)
   | (with_reducible refine LeO.ite ?_ ?_)
   | (with_reducible refine LeO.bind ?_ (fun _ => ?_))
   | exact ih0 _ _ _ _ _
   | exact crc_Extend.mono _ _ _
   | exact crc_Sum.mono _ _
   | exact wire_TakeInt.mono _ _
   | exact LeO.none _
   | refine LeO.ite ?_ ?_
   | refine LeO.bind ?_ (fun _ => ?_)
theorem crc_Open.mono : ∀ a0 k, LeO (crc_Open.f k a0) (crc_Open.f (k + 1) a0) := by
 intro a0 k
 have ih0 := crc_Open.mono_l k
 unfold crc_Open.f
 repeat' first
   | (with_reducible exact ih0 _ _ _ _ _)
   | (with_reducible exact crc_Extend.mono _ _ _)
   | (with_reducible exact crc_Sum.mono _ _)
   | (with_reducible exact wire_TakeInt.mono _ _)
   | (with_reducible exact LeO.refl _)
   | (with_reducible exact LeO.none _)
   | (with_reducible refine LeO.ite ?_ ?_)
   | (with_reducible refine LeO.bind ?_ (fun _ => ?_))
   | exact ih0 _ _ _ _ _
   | exact crc_Extend.mono _ _ _
   | exact crc_Sum.mono _ _
   | exact wire_TakeInt.mono _ _
   | exact LeO.none _
   | refine LeO.ite ?_ ?_
   | refine LeO.bind ?_ (fun _ => ?_)
set_option maxHeartbeats 8000000 in
set_option maxRecDepth 100000 in
theorem crc_Open.calls (k : Nat) (A0 : Option Addr) (c0 : Nat) (l0 : List Int) (r1 : List Int) (r2 : Int) (r3 : Int) (w : World) (hr0 : Kd.C (Kd.int .u8) w A0 l0.length l0) (hc0 : l0.length ≤ c0) (h : crc_Open.f k l0 = some (r1, r2, r3)) :
  Calls Try.prog 116 #[.slice A0 l0.length c0] w fun e w' => ∃ v0_ : Value, e = .returned (.tuple #[v0_, .int .i64 r2, .int .i64 r3]) ∧ Kd.R (Kd.int .u8) 5 w' w.heap.size (fun _ => True) v0_ r1 ∧ Below w.heap.size w w' := by
 have HR0 := Aside0.mk hr0
 have HC0 := Aside0.mk hc0
 clear hr0 hc0
 have HB := Aside0.mk (Below.refl w.heap.size w)
 have H : ((wire_TakeInt.f k l0).bind fun bt1614 => (if bt1614.2.2 = 0 then (if bt1614.1 < 0 then (some (([] : List Int), 0, 2)) else (if bt1614.1 > 65536 then (some (([] : List Int), 0, 3)) else (if (wrap64 ((l0.length : Int) - bt1614.2.1)) < (wrap64 (4 + bt1614.1)) then (some (([] : List Int), 0, 13)) else (crc_Open.l0 k l0 bt1614.1 bt1614.2.1 0 0)))) else (some (([] : List Int), 0, bt1614.2.2)))) = some (r1, r2, r3) := h
 clear h
 replace H := Option.bind_eq_some_iff.mp H
 obtain ⟨⟨t1614, t1615, t1616⟩, A20, H⟩ := H
 try dsimp only at H
 have A2 := Aside0.mk A20
 clear A20
 by_cases c3 : t1616 = 0
 ·rw [if_pos c3] at H
  have c3b0 : (t1616 == 0) = true := beq_iff_eq.mpr c3
  have c3b1 : (t1616 != 0) = false := bne_eq_false_iff_eq.mpr c3
  clear c3
  by_cases c4 : t1614 < 0
  ·rw [if_pos c4] at H
   have c4b0 : decide (t1614 < 0) = true := decide_eq_true c4
   clear c4
   simp only [Option.some.injEq, Prod.mk.injEq] at H
   obtain ⟨rfl, rfl, rfl⟩ := H
   go_enter Try.func116, Try.ntmps116
   go_wp2_with (first | ((with_reducible refine gate_callee (f := 148) rfl ?_); refine goesL_ (some 14) rfl rfl Try.func148 (by kernel_rfl) rfl #[.slice A0 l0.length c0] rfl (by (try simp only [List.map_toArray, List.map_cons, List.map_nil]); first | done | rfl | (simp only [List.length_drop, List.length_take]; rfl)) ?_; (with_reducible refine (wire_TakeInt.calls k _ _ l0 t1614 t1615 t1616 _ ?side1 ?side2 A2.out).mono ?_); (case side1 => repeat (first | exact HR0.out | (with_reducible refine Kd.C_alloc ?_ _) | (with_reducible refine Kd.C_drewN ?_ _) | (with_reducible refine Kd.C_drew ?_))); (case side2 => exact HC0.out); rintro e w' ⟨rfl, ⟨nd, rfl⟩⟩; refine ⟨_, rfl, ?_⟩))
   go_ret3
   exact ⟨_, by first | rfl | (simp [errW_none, errW_some] <;> rfl) | (simp [*, errW_none, errW_some] <;> rfl), by first | exact Kd.R_nil _ _ _ _ _ | exact Kd.N_nil _ _ _ _ _ | exact Kd.V_nil _ _ _ _ _ | exact Kd.Q_nil _ _ _ _ _ | exact Kd.S_nil _ _ _ _ _, hU HB.out⟩
  ·rw [if_neg c4] at H
   have c4b0 : decide (t1614 < 0) = false := decide_eq_false c4
   clear c4
   by_cases c5 : t1614 > 65536
   ·rw [if_pos c5] at H
    have c5b0 : decide (65536 < t1614) = true := decide_eq_true c5
    clear c5
    simp only [Option.some.injEq, Prod.mk.injEq] at H
    obtain ⟨rfl, rfl, rfl⟩ := H
    go_enter Try.func116, Try.ntmps116
    go_wp2_with (first | ((with_reducible refine gate_callee (f := 148) rfl ?_); refine goesL_ (some 14) rfl rfl Try.func148 (by kernel_rfl) rfl #[.slice A0 l0.length c0] rfl (by (try simp only [List.map_toArray, List.map_cons, List.map_nil]); first | done | rfl | (simp only [List.length_drop, List.length_take]; rfl)) ?_; (with_reducible refine (wire_TakeInt.calls k _ _ l0 t1614 t1615 t1616 _ ?side1 ?side2 A2.out).mono ?_); (case side1 => repeat (first | exact HR0.out | (with_reducible refine Kd.C_alloc ?_ _) | (with_reducible refine Kd.C_drewN ?_ _) | (with_reducible refine Kd.C_drew ?_))); (case side2 => exact HC0.out); rintro e w' ⟨rfl, ⟨nd, rfl⟩⟩; refine ⟨_, rfl, ?_⟩))
    go_ret3
    exact ⟨_, by first | rfl | (simp [errW_none, errW_some] <;> rfl) | (simp [*, errW_none, errW_some] <;> rfl), by first | exact Kd.R_nil _ _ _ _ _ | exact Kd.N_nil _ _ _ _ _ | exact Kd.V_nil _ _ _ _ _ | exact Kd.Q_nil _ _ _ _ _ | exact Kd.S_nil _ _ _ _ _, hU HB.out⟩
   ·rw [if_neg c5] at H
    have c5b0 : decide (65536 < t1614) = false := decide_eq_false c5
    clear c5
    by_cases c6 : (wrap64 ((l0.length : Int) - t1615)) < (wrap64 (4 + t1614))
    ·rw [if_pos c6] at H
     have c6b0 : decide ((wrap64 ((l0.length : Int) - t1615)) < (wrap64 (4 + t1614))) = true := decide_eq_true c6
     clear c6
     simp only [Option.some.injEq, Prod.mk.injEq] at H
     obtain ⟨rfl, rfl, rfl⟩ := H
     go_enter Try.func116, Try.ntmps116
     go_wp2_with (first | ((with_reducible refine gate_callee (f := 148) rfl ?_); refine goesL_ (some 14) rfl rfl Try.func148 (by kernel_rfl) rfl #[.slice A0 l0.length c0] rfl (by (try simp only [List.map_toArray, List.map_cons, List.map_nil]); first | done | rfl | (simp only [List.length_drop, List.length_take]; rfl)) ?_; (with_reducible refine (wire_TakeInt.calls k _ _ l0 t1614 t1615 t1616 _ ?side1 ?side2 A2.out).mono ?_); (case side1 => repeat (first | exact HR0.out | (with_reducible refine Kd.C_alloc ?_ _) | (with_reducible refine Kd.C_drewN ?_ _) | (with_reducible refine Kd.C_drew ?_))); (case side2 => exact HC0.out); rintro e w' ⟨rfl, ⟨nd, rfl⟩⟩; refine ⟨_, rfl, ?_⟩))
     go_ret3
     exact ⟨_, by first | rfl | (simp [errW_none, errW_some] <;> rfl) | (simp [*, errW_none, errW_some] <;> rfl), by first | exact Kd.R_nil _ _ _ _ _ | exact Kd.N_nil _ _ _ _ _ | exact Kd.V_nil _ _ _ _ _ | exact Kd.Q_nil _ _ _ _ _ | exact Kd.S_nil _ _ _ _ _, hU HB.out⟩
    ·rw [if_neg c6] at H
     have c6b0 : decide ((wrap64 ((l0.length : Int) - t1615)) < (wrap64 (4 + t1614))) = false := decide_eq_false c6
     clear c6
     have H' := Aside0.mk H
     clear H
     go_enter Try.func116, Try.ntmps116
     go_wp2_with (first | ((with_reducible refine gate_callee (f := 148) rfl ?_); refine goesL_ (some 14) rfl rfl Try.func148 (by kernel_rfl) rfl #[.slice A0 l0.length c0] rfl (by (try simp only [List.map_toArray, List.map_cons, List.map_nil]); first | done | rfl | (simp only [List.length_drop, List.length_take]; rfl)) ?_; (with_reducible refine (wire_TakeInt.calls k _ _ l0 t1614 t1615 t1616 _ ?side1 ?side2 A2.out).mono ?_); (case side1 => repeat (first | exact HR0.out | (with_reducible refine Kd.C_alloc ?_ _) | (with_reducible refine Kd.C_drewN ?_ _) | (with_reducible refine Kd.C_drew ?_))); (case side2 => exact HC0.out); rintro e w' ⟨rfl, ⟨nd, rfl⟩⟩; refine ⟨_, rfl, ?_⟩))
     go_loopg [8, 36] k (fun kq v8 v36 w' => ∃ (x8_1 : Int) (x36_1 : Int), v8 = .int .u32 x8_1 ∧ v36 = .int .i64 x36_1 ∧ Aside0 (crc_Open.l0 kq l0 t1614 t1615 x8_1 x36_1 = some (r1, r2, r3)) ∧ Aside0 (kq ≤ k) ∧ Aside0 (Below w.heap.size w w'))
     case atStart => exact ⟨(0), (0), (by first | rfl | (simp; done) | (simp [*]; done)), (by first | rfl | (simp; done) | (simp [*]; done)), H', ⟨Nat.le_refl _⟩, ⟨hU HB.out⟩⟩
     case round =>
      clear H'
      try clear c1
      try clear p2
      try clear c3
      try clear c3b0
      try clear c3b1
      try clear c4
      try clear c4b0
      try clear c5
      try clear c5b0
      try clear c6
      try clear c6b0
      try clear p6
      obtain ⟨x8_1, x36_1, rfl, rfl, HA, HK1, HB⟩ := hrel
      cases gk with
      | zero => exact absurd HA.out (by simp [crc_Open.l0])
      | succ k1 =>
       have H := HA.out
       clear HA
       simp only [crc_Open.l0] at H
       by_cases c7 : x36_1 < 4
       ·rw [if_pos c7] at H
        have c7b0 : decide (x36_1 < 4) = true := decide_eq_true c7
        clear c7
        obtain ⟨ji8, hji8⟩ : ∃ j_ : Int, (wrap64 (t1615 + x36_1)) = j_ := ⟨_, rfl⟩
        replace H : (if 0 ≤ (ji8) then (if (ji8) < (l0.length : Int) then (if 0 ≤ (wrap64 (8 * x36_1)) then (crc_Open.l0 k1 l0 t1614 t1615 (Go.bits .or .u32 x8_1 (shl .u32 ((rd l0 (ji8)) % 4294967296) (wrap64 (8 * x36_1)))) (wrap64 (x36_1 + 1))) else (none)) else (none)) else (none)) = some (r1, r2, r3) := by first | (rw [hji8] at H; exact H) | (simp only [hji8] at H ⊢; exact H)
        have hji8w : (IntKind.i64.wrap (t1615 + x36_1)) = ji8 := (i64_w _).trans hji8
        by_cases c9 : 0 ≤ (ji8)
        rotate_left
        ·rw [if_neg c9] at H
         exact absurd H (by simp)
        rw [if_pos c9] at H
        have c9b0 : decide (0 ≤ (ji8)) = true := decide_eq_true c9
        clear c9
        by_cases c10 : (ji8) < (l0.length : Int)
        rotate_left
        ·rw [if_neg c10] at H
         exact absurd H (by simp)
        rw [if_pos c10] at H
        have c10b0 : decide ((ji8) < (l0.length : Int)) = true := decide_eq_true c10
        clear c10
        obtain ⟨ji11, hji11⟩ : ∃ j_ : Int, (wrap64 (8 * x36_1)) = j_ := ⟨_, rfl⟩
        replace H : (if 0 ≤ (ji11) then (crc_Open.l0 k1 l0 t1614 t1615 (Go.bits .or .u32 x8_1 (shl .u32 ((rd l0 (ji8)) % 4294967296) (ji11))) (wrap64 (x36_1 + 1))) else (none)) = some (r1, r2, r3) := by first | (rw [hji11] at H; exact H) | (simp only [hji11] at H ⊢; exact H)
        have hji11w : (IntKind.i64.wrap (8 * x36_1)) = ji11 := (i64_w _).trans hji11
        by_cases c12 : 0 ≤ (ji11)
        rotate_left
        ·rw [if_neg c12] at H
         exact absurd H (by simp)
        rw [if_pos c12] at H
        have c12b0 := eq_true c12
        have c12b1 : decide (0 ≤ (ji11)) = true := decide_eq_true c12
        clear c12
        obtain ⟨ji13, hji13⟩ : ∃ j_ : Int, (shl .u32 ((rd l0 (ji8)) % 4294967296) (ji11)) = j_ := ⟨_, rfl⟩
        replace H : (crc_Open.l0 k1 l0 t1614 t1615 (Go.bits .or .u32 x8_1 (ji13)) (wrap64 (x36_1 + 1))) = some (r1, r2, r3) := by first | (rw [hji13] at H; exact H) | (simp only [hji13] at H ⊢; exact H)
        have hji13_ : (IntKind.u32.wrap (((rd l0 (ji8)) % 4294967296) * 2 ^ min (ji11).toNat 32)) = ji13 := hji13
        have hji13z : (ji11) ≤ 32 → (IntKind.u32.wrap (((rd l0 (ji8)) % 4294967296) * 2 ^ (ji11).toNat)) = ji13 := shl_small hji13
        have H' := Aside0.mk H
        clear H
        have p1617 : 0 ≤ ((ji8) : Int) := of_decide_eq_true (by first | (with_reducible assumption) | assumption)
        have q1617 : (ji8) < (l0.length : Int) := of_decide_eq_true (by first | (with_reducible assumption) | assumption)
        obtain ⟨ad1617, e1617, hx1617_0⟩ := Kd.at_int HR0.out (ji8) p1617 q1617
        cases e1617
        replace hx1617_0 := hbC HB hx1617_0
        replace p1617 := eq_true p1617
        replace q1617 := eq_true q1617
        go_wp2
        go_roundg k1
        case measure => have := HK1.out; omega
        case rel => exact ⟨(Go.bits .or .u32 x8_1 (ji13)), (wrap64 (x36_1 + 1)), (by first | rfl | (simp; done) | (simp only [← hji13] <;> (first | rfl | simp)) | (simp [*]; done)), (by first | rfl | (simp; done) | (simp [*]; done)), H', ⟨by have := HK1.out; omega⟩, ⟨hU HB.out⟩⟩
       ·rw [if_neg c7] at H
        have c7b0 : decide (x36_1 < 4) = false := decide_eq_false c7
        clear c7
        obtain ⟨ji14, hji14⟩ : ∃ j_ : Int, (wrap64 (t1615 + 4)) = j_ := ⟨_, rfl⟩
        replace H : (if 0 ≤ (ji14) then (if (ji14) ≤ (wrap64 ((ji14) + t1614)) then (if (wrap64 ((ji14) + t1614)) ≤ (l0.length : Int) then ((slices_Clone_byte_byte.f ((l0.take ((wrap64 ((ji14) + t1614)) : Int).toNat).drop ((ji14) : Int).toNat)).bind fun t1619 => (if 0 ≤ t1615 then (if t1615 ≤ (l0.length : Int) then ((crc_Sum.f k1 (l0.take (t1615 : Int).toNat)).bind fun t1623 => ((crc_Extend.f k1 t1623 t1619).bind fun t1624 => (if t1624 = x8_1 then (some (t1619, wrap64 ((ji14) + t1614), 0)) else (some (([] : List Int), 0, 14))))) else (none)) else (none))) else (none)) else (none)) else (none)) = some (r1, r2, r3) := by first | (rw [hji14] at H; exact H) | (simp only [hji14] at H ⊢; exact H)
        have hji14w : (IntKind.i64.wrap (t1615 + 4)) = ji14 := (i64_w _).trans hji14
        by_cases c15 : 0 ≤ (ji14)
        rotate_left
        ·rw [if_neg c15] at H
         exact absurd H (by simp)
        rw [if_pos c15] at H
        have c15b0 := eq_true c15
        have c15b1 : decide (0 ≤ (ji14)) = true := decide_eq_true c15
        clear c15
        by_cases c16 : (ji14) ≤ (wrap64 ((ji14) + t1614))
        rotate_left
        ·rw [if_neg c16] at H
         exact absurd H (by simp)
        rw [if_pos c16] at H
        have c16b0 := eq_true c16
        have c16b1 : decide ((ji14) ≤ (wrap64 ((ji14) + t1614))) = true := decide_eq_true c16
        by_cases c17 : (wrap64 ((ji14) + t1614)) ≤ (l0.length : Int)
        rotate_left
        ·rw [if_neg c17] at H
         exact absurd H (by simp)
        rw [if_pos c17] at H
        have c17b0 := eq_true c17
        have c17b1 : decide ((wrap64 ((ji14) + t1614)) ≤ (l0.length : Int)) = true := decide_eq_true c17
        replace H := Option.bind_eq_some_iff.mp H
        obtain ⟨t1619, A180, H⟩ := H
        try dsimp only at H
        have A18 := Aside0.mk A180
        clear A180
        by_cases c19 : 0 ≤ t1615
        rotate_left
        ·rw [if_neg c19] at H
         exact absurd H (by simp)
        rw [if_pos c19] at H
        have c19b0 := eq_true c19
        have c19b1 : decide (0 ≤ t1615) = true := decide_eq_true c19
        clear c19
        by_cases c20 : t1615 ≤ (l0.length : Int)
        rotate_left
        ·rw [if_neg c20] at H
         exact absurd H (by simp)
        rw [if_pos c20] at H
        have c20b0 := eq_true c20
        have c20b1 : decide (t1615 ≤ (l0.length : Int)) = true := decide_eq_true c20
        clear c20
        replace H := Option.bind_eq_some_iff.mp H
        obtain ⟨t1623, A210, H⟩ := H
        try dsimp only at H
        have A21 := Aside0.mk A210
        clear A210
        replace H := Option.bind_eq_some_iff.mp H
        obtain ⟨t1624, A220, H⟩ := H
        replace H : (if t1624 = x8_1 then (some (t1619, wrap64 ((ji14) + t1614), 0)) else (some (([] : List Int), 0, 14))) = some (r1, r2, r3) := H
        have A22 := Aside0.mk A220
        clear A220
        by_cases c23 : t1624 = x8_1
        ·rw [if_pos c23] at H
         have c23b0 : (t1624 == x8_1) = true := beq_iff_eq.mpr c23
         have c23b1 : (t1624 != x8_1) = false := bne_eq_false_iff_eq.mpr c23
         clear c23
         simp only [Option.some.injEq, Prod.mk.injEq] at H
         obtain ⟨rfl, rfl, rfl⟩ := H
         obtain ⟨i024, hi024, _, hsz24, _⟩ := info_parts info5
         obtain ⟨A24, hcut24, hA24, hC24⟩ := print_mid_of (P := Try.prog) (Value.int .u8) 0 60 5 .i64 .i64 Try.underlying60 hi024 hsz24 A0 c0 l0 (ji14) (wrap64 ((ji14) + t1614)) (of_decide_eq_true (by first | (with_reducible assumption) | assumption)) (by first | omega | exact of_decide_eq_true (by first | (with_reducible assumption) | assumption)) (of_decide_eq_true (by first | (with_reducible assumption) | assumption)) HC0.out
         have HR1618 := Aside0.mk (Kd.C_of_reads (h1 := fun _ => rfl) (hA24 _ (Kd.reads_of_C HR0.out)))
         have HC1618 := Aside0.mk hC24
         clear hA24 hC24 hi024 hsz24
         go_wp2_with (first | ((with_reducible refine gate_callee (f := 84) rfl ?_); refine goesL_ (some 61) rfl rfl Try.func84 (by kernel_rfl) rfl #[.slice A24 ((l0.take ((wrap64 ((ji14) + t1614)) : Int).toNat).drop ((ji14) : Int).toNat).length (c0 - (ji14).toNat)] rfl (by (try simp only [List.map_toArray, List.map_cons, List.map_nil]); first | done | (rw [show ((l0.take ((wrap64 ((ji14) + t1614)) : Int).toNat).drop ((ji14) : Int).toNat).length = ((wrap64 ((ji14) + t1614)).toNat - (ji14).toNat) from (by rw [List.length_drop, List.length_take]; have h_ : ((wrap64 ((ji14) + t1614)) : Int) ≤ (l0.length : Int) := of_decide_eq_true (by first | (with_reducible assumption) | assumption); omega)] <;> rfl) | (simp only [hji14]; rfl) | rfl | (simp only [List.length_drop, List.length_take]; rfl)) ?_; (with_reducible refine (slices_Clone_byte_byte.calls _ _ ((l0.take ((wrap64 ((ji14) + t1614)) : Int).toNat).drop ((ji14) : Int).toNat) t1619 _ ?side1 ?side2 A18.out).mono ?_); (case side1 => repeat (first | exact (Kd.C_below HR1618.out HB.out) | (with_reducible refine Kd.C_alloc ?_ _) | (with_reducible refine Kd.C_drewN ?_ _) | (with_reducible refine Kd.C_drew ?_))); (case side2 => exact HC1618.out); rintro e w25 ⟨v1620, rfl, ho0, hb⟩; refine ⟨_, rfl, ?_⟩; replace HO1621 := Aside0.mk (Kd.R_lower ho0 (below_size (hU HB.out))); replace HB := Aside0.mk (below_step (hU HB.out) hb); (try clear hb); (try clear hb2); (try clear hk); (try clear hi); (try clear ho0); obtain ⟨i026, hi026, _, hsz26, _⟩ := info_parts info5; obtain ⟨hcut26, hA26, hC26⟩ := print_take_of (P := Try.prog) (Value.int .u8) 0 60 5 .i64 Try.underlying60 hi026 hsz26 A0 c0 l0 t1615 (of_decide_eq_true (by first | (with_reducible assumption) | assumption)) (of_decide_eq_true (by first | (with_reducible assumption) | assumption)) HC0.out; have HR1622 := Aside0.mk (Kd.C_of_reads (h1 := fun _ => rfl) (hA26 _ (Kd.reads_of_C HR0.out))); have HC1622 := Aside0.mk hC26; clear hA26 hC26 hi026 hsz26) | ((with_reducible refine gate_callee (f := 112) rfl ?_); refine goesL_ (some 65) rfl rfl Try.func112 (by kernel_rfl) rfl #[.slice A0 (l0.take (t1615 : Int).toNat).length c0] rfl (by (try simp only [List.map_toArray, List.map_cons, List.map_nil]); first | done | (rw [show (l0.take (t1615 : Int).toNat).length = t1615.toNat from (by rw [List.length_take]; have h_ : (t1615 : Int) ≤ (l0.length : Int) := of_decide_eq_true (by first | (with_reducible assumption) | assumption); omega)] <;> rfl) | rfl | (simp only [List.length_drop, List.length_take]; rfl)) ?_; (with_reducible refine (crc_Sum.calls k1 _ _ (l0.take (t1615 : Int).toNat) t1623 _ ?side1 ?side2 A21.out).mono ?_); (case side1 => repeat (first | exact (Kd.C_below HR1622.out HB.out) | (with_reducible refine Kd.C_alloc ?_ _) | (with_reducible refine Kd.C_drewN ?_ _) | (with_reducible refine Kd.C_drew ?_))); (case side2 => exact HC1622.out); rintro e w' ⟨rfl, ⟨nd, rfl⟩⟩; refine ⟨_, rfl, ?_⟩; obtain ⟨Ao27, co27, eo27⟩ := Kd.R_slice HO1621.out; subst eo27) | ((with_reducible refine gate_callee (f := 111) rfl ?_); refine goesL_ (some 67) rfl rfl Try.func111 (by kernel_rfl) rfl #[.int .u32 t1623, .slice Ao27 t1619.length co27] rfl (by (try simp only [List.map_toArray, List.map_cons, List.map_nil]); first | done | rfl | (simp only [List.length_drop, List.length_take]; rfl)) ?_; (with_reducible refine (crc_Extend.calls k1 t1623 _ _ t1619 t1624 _ ?side1 ?side2 A22.out).mono ?_); (case side1 => repeat (first | exact (Kd.R_reads' HO1621.out).2.2 | (with_reducible refine Kd.C_alloc ?_ _) | (with_reducible refine Kd.C_drewN ?_ _) | (with_reducible refine Kd.C_drew ?_))); (case side2 => exact (Kd.R_reads' HO1621.out).2.1); rintro e w' ⟨rfl, ⟨nd, rfl⟩⟩; refine ⟨_, rfl, ?_⟩))
         go_ret3
         exact ⟨_, by first | rfl | (simp [errW_none, errW_some] <;> rfl) | (simp only [← hji14]; first | rfl | (simp [errW_none, errW_some] <;> rfl)) | (simp [*, errW_none, errW_some] <;> rfl), by (with_reducible repeat (first | apply Kd.R_alloc | apply Kd.R_drewN | apply Kd.R_drew)); exact HO1621.out, hU HB.out⟩
        ·rw [if_neg c23] at H
         have c23b0 : (t1624 == x8_1) = false := beq_eq_false_iff_ne.mpr c23
         have c23b1 : (t1624 != x8_1) = true := bne_iff_ne.mpr c23
         simp only [Option.some.injEq, Prod.mk.injEq] at H
         obtain ⟨rfl, rfl, rfl⟩ := H
         obtain ⟨i028, hi028, _, hsz28, _⟩ := info_parts info5
         obtain ⟨A28, hcut28, hA28, hC28⟩ := print_mid_of (P := Try.prog) (Value.int .u8) 0 60 5 .i64 .i64 Try.underlying60 hi028 hsz28 A0 c0 l0 (ji14) (wrap64 ((ji14) + t1614)) (of_decide_eq_true (by first | (with_reducible assumption) | assumption)) (by first | omega | exact of_decide_eq_true (by first | (with_reducible assumption) | assumption)) (of_decide_eq_true (by first | (with_reducible assumption) | assumption)) HC0.out
         have HR1618 := Aside0.mk (Kd.C_of_reads (h1 := fun _ => rfl) (hA28 _ (Kd.reads_of_C HR0.out)))
         have HC1618 := Aside0.mk hC28
         clear hA28 hC28 hi028 hsz28
         go_wp2_with (first | ((with_reducible refine gate_callee (f := 84) rfl ?_); refine goesL_ (some 61) rfl rfl Try.func84 (by kernel_rfl) rfl #[.slice A28 ((l0.take ((wrap64 ((ji14) + t1614)) : Int).toNat).drop ((ji14) : Int).toNat).length (c0 - (ji14).toNat)] rfl (by (try simp only [List.map_toArray, List.map_cons, List.map_nil]); first | done | (rw [show ((l0.take ((wrap64 ((ji14) + t1614)) : Int).toNat).drop ((ji14) : Int).toNat).length = ((wrap64 ((ji14) + t1614)).toNat - (ji14).toNat) from (by rw [List.length_drop, List.length_take]; have h_ : ((wrap64 ((ji14) + t1614)) : Int) ≤ (l0.length : Int) := of_decide_eq_true (by first | (with_reducible assumption) | assumption); omega)] <;> rfl) | (simp only [hji14]; rfl) | rfl | (simp only [List.length_drop, List.length_take]; rfl)) ?_; (with_reducible refine (slices_Clone_byte_byte.calls _ _ ((l0.take ((wrap64 ((ji14) + t1614)) : Int).toNat).drop ((ji14) : Int).toNat) t1619 _ ?side1 ?side2 A18.out).mono ?_); (case side1 => repeat (first | exact (Kd.C_below HR1618.out HB.out) | (with_reducible refine Kd.C_alloc ?_ _) | (with_reducible refine Kd.C_drewN ?_ _) | (with_reducible refine Kd.C_drew ?_))); (case side2 => exact HC1618.out); rintro e w29 ⟨v1620, rfl, ho0, hb⟩; refine ⟨_, rfl, ?_⟩; replace HO1621 := Aside0.mk (Kd.R_lower ho0 (below_size (hU HB.out))); replace HB := Aside0.mk (below_step (hU HB.out) hb); (try clear hb); (try clear hb2); (try clear hk); (try clear hi); (try clear ho0); obtain ⟨i030, hi030, _, hsz30, _⟩ := info_parts info5; obtain ⟨hcut30, hA30, hC30⟩ := print_take_of (P := Try.prog) (Value.int .u8) 0 60 5 .i64 Try.underlying60 hi030 hsz30 A0 c0 l0 t1615 (of_decide_eq_true (by first | (with_reducible assumption) | assumption)) (of_decide_eq_true (by first | (with_reducible assumption) | assumption)) HC0.out; have HR1622 := Aside0.mk (Kd.C_of_reads (h1 := fun _ => rfl) (hA30 _ (Kd.reads_of_C HR0.out))); have HC1622 := Aside0.mk hC30; clear hA30 hC30 hi030 hsz30) | ((with_reducible refine gate_callee (f := 112) rfl ?_); refine goesL_ (some 65) rfl rfl Try.func112 (by kernel_rfl) rfl #[.slice A0 (l0.take (t1615 : Int).toNat).length c0] rfl (by (try simp only [List.map_toArray, List.map_cons, List.map_nil]); first | done | (rw [show (l0.take (t1615 : Int).toNat).length = t1615.toNat from (by rw [List.length_take]; have h_ : (t1615 : Int) ≤ (l0.length : Int) := of_decide_eq_true (by first | (with_reducible assumption) | assumption); omega)] <;> rfl) | rfl | (simp only [List.length_drop, List.length_take]; rfl)) ?_; (with_reducible refine (crc_Sum.calls k1 _ _ (l0.take (t1615 : Int).toNat) t1623 _ ?side1 ?side2 A21.out).mono ?_); (case side1 => repeat (first | exact (Kd.C_below HR1622.out HB.out) | (with_reducible refine Kd.C_alloc ?_ _) | (with_reducible refine Kd.C_drewN ?_ _) | (with_reducible refine Kd.C_drew ?_))); (case side2 => exact HC1622.out); rintro e w' ⟨rfl, ⟨nd, rfl⟩⟩; refine ⟨_, rfl, ?_⟩; obtain ⟨Ao31, co31, eo31⟩ := Kd.R_slice HO1621.out; subst eo31) | ((with_reducible refine gate_callee (f := 111) rfl ?_); refine goesL_ (some 67) rfl rfl Try.func111 (by kernel_rfl) rfl #[.int .u32 t1623, .slice Ao31 t1619.length co31] rfl (by (try simp only [List.map_toArray, List.map_cons, List.map_nil]); first | done | rfl | (simp only [List.length_drop, List.length_take]; rfl)) ?_; (with_reducible refine (crc_Extend.calls k1 t1623 _ _ t1619 t1624 _ ?side1 ?side2 A22.out).mono ?_); (case side1 => repeat (first | exact (Kd.R_reads' HO1621.out).2.2 | (with_reducible refine Kd.C_alloc ?_ _) | (with_reducible refine Kd.C_drewN ?_ _) | (with_reducible refine Kd.C_drew ?_))); (case side2 => exact (Kd.R_reads' HO1621.out).2.1); rintro e w' ⟨rfl, ⟨nd, rfl⟩⟩; refine ⟨_, rfl, ?_⟩))
         go_ret3
         exact ⟨_, by first | rfl | (simp [errW_none, errW_some] <;> rfl) | (simp only [← hji14]; first | rfl | (simp [errW_none, errW_some] <;> rfl)) | (simp [*, errW_none, errW_some] <;> rfl), by first | exact Kd.R_nil _ _ _ _ _ | exact Kd.N_nil _ _ _ _ _ | exact Kd.V_nil _ _ _ _ _ | exact Kd.Q_nil _ _ _ _ _ | exact Kd.S_nil _ _ _ _ _, hU HB.out⟩
 ·rw [if_neg c3] at H
  have c3b0 : (t1616 == 0) = false := beq_eq_false_iff_ne.mpr c3
  have c3b1 : (t1616 != 0) = true := bne_iff_ne.mpr c3
  simp only [Option.some.injEq, Prod.mk.injEq] at H
  obtain ⟨rfl, rfl, rfl⟩ := H
  go_enter Try.func116, Try.ntmps116
  go_wp2_with (first | ((with_reducible refine gate_callee (f := 148) rfl ?_); refine goesL_ (some 14) rfl rfl Try.func148 (by kernel_rfl) rfl #[.slice A0 l0.length c0] rfl (by (try simp only [List.map_toArray, List.map_cons, List.map_nil]); first | done | rfl | (simp only [List.length_drop, List.length_take]; rfl)) ?_; (with_reducible refine (wire_TakeInt.calls k _ _ l0 t1614 t1615 t1616 _ ?side1 ?side2 A2.out).mono ?_); (case side1 => repeat (first | exact HR0.out | (with_reducible refine Kd.C_alloc ?_ _) | (with_reducible refine Kd.C_drewN ?_ _) | (with_reducible refine Kd.C_drew ?_))); (case side2 => exact HC0.out); rintro e w' ⟨rfl, ⟨nd, rfl⟩⟩; refine ⟨_, rfl, ?_⟩))
  go_ret3
  exact ⟨_, by first | rfl | (simp [errW_none, errW_some] <;> rfl) | (simp [*, errW_none, errW_some] <;> rfl), by first | exact Kd.R_nil _ _ _ _ _ | exact Kd.N_nil _ _ _ _ _ | exact Kd.V_nil _ _ _ _ _ | exact Kd.Q_nil _ _ _ _ _ | exact Kd.S_nil _ _ _ _ _, hU HB.out⟩
end Go.Proofs.Yteopkkoblbmggaa.P
end
section
set_option linter.unusedVariables false
set_option linter.unusedSimpArgs false
namespace Go.Proofs.Yteopkkoblbmggaa.P
open Go.RowKit Go.Shelf Go.Proofs.YteopkkoblbmggaaW.PrintWords Go.Proofs.YteopkkoblbmggaaW.PrintLast Go.Proofs.YteopkkoblbmggaaW.PrintMore
attribute [local go_sem] Oper.semAt_some
/-- The opening of a frame is defined here, and what it takes lies within the bytes. -/
def openOK (k : Nat) (l : List Int) : Bool := match crc_Open.f k l with
  | some (_, n, e) => if e = 0 then decide (0 < n ∧ n ≤ (l.length : Int)) else true
  | none => false
theorem openOK_some {k : Nat} {l : List Int} (h : openOK k l = true) : ∃ c n e, crc_Open.f k l = some (c, n, e) ∧ (e = 0 → 0 < n ∧ n ≤ (l.length : Int)) := by
  unfold openOK at h
  split at h
  · rename_i c n e heq
    refine ⟨c, n, e, heq, fun he => ?_⟩
    rw [if_pos he] at h
    exact of_decide_eq_true h
  · cases h
/-- What is yielded: the slice's address and capacity, the contents, and where the frame ends. -/
abbrev FX := (Option Addr × Nat) × (List Int × Int)
def encF (x : FX) : Array Value := #[.slice x.1.1 x.2.1.length x.1.2, .int .i64 x.2.2]
def endF : Int → List FX → Int
  | at_, [] => at_
  | _, x :: t => endF x.2.2 t
def goodF (k : Nat) (b : List Int) : Int → List FX → Prop
  | at_, [] => True
  | at_, x :: t => (∃ n, crc_Open.f k (b.drop at_.toNat) = some (x.2.1, n, 0) ∧ x.2.2 = at_ + n) ∧ goodF k b x.2.2 t
theorem endF_snoc (at_ : Int) (pre : List FX) (x : FX) : endF at_ (pre ++ [x]) = x.2.2 := by
  induction pre generalizing at_ with
  | nil => rfl
  | cons y t ih => exact ih _
theorem goodF_snoc {k : Nat} {b : List Int} {at_ : Int} {pre : List FX} {x : FX} (h : goodF k b at_ pre) (hx : ∃ n, crc_Open.f k (b.drop (endF at_ pre).toNat) = some (x.2.1, n, 0) ∧ x.2.2 = endF at_ pre + n) : goodF k b at_ (pre ++ [x]) := by
  induction pre generalizing at_ with
  | nil => exact ⟨hx, trivial⟩
  | cons y t ih => exact ⟨h.1, ih h.2 hx⟩
theorem goodF_last {k : Nat} {b : List Int} {at_ : Int} {pre : List FX} {x : FX} (h : goodF k b at_ (pre ++ [x])) : ∃ n, crc_Open.f k (b.drop (endF at_ pre).toNat) = some (x.2.1, n, 0) ∧ x.2.2 = endF at_ pre + n := by
  induction pre generalizing at_ with
  | nil => exact h.1
  | cons y t ih => exact ih h.2
/-- What is known of a frame where it is yielded. -/
def CxF (k : Nat) (b : List Int) (pre : List FX) (x : FX) (W : World) : Prop := goodF k b 0 (pre ++ [x]) ∧ Kd.C (Kd.int .u8) W x.1.1 x.2.1.length x.2.1 ∧ x.2.1.length ≤ x.1.2
/-- The frames are at an end. -/
def SF (k : Nat) (b : List Int) (xs : List FX) : Prop := goodF k b 0 xs ∧ ∃ c n e, crc_Open.f k (b.drop (endF 0 xs).toNat) = some (c, n, e) ∧ e ≠ 0
/-- What a round that goes on keeps: what lay below n₁, and the variable in Bc. -/
def KpT (n₁ Bc t : Nat) (W W' : World) : Prop := Below n₁ W W' ∧ ∀ cs, W.heap[Bc]? = some (.cells cs t (0, 0)) → W'.heap[Bc]? = some (.cells cs t (0, 0))
theorem cells_kept {W W' : World} {row : Option Nat} {k : Nat} {cs : Array Value} {t : TypeId} (h : W.heap[k]? = some (.cells cs t (0, 0))) (hg : W.grownBy W' row) (hr : ∀ r, row = some r → ∃ o : Obj, W.heap[r]? = some o ∧ o.isCells = false) : W'.heap[k]? = some (.cells cs t (0, 0)) :=
  (hg.block k (blk_lt h) (fun e => by obtain ⟨o, ho, hc⟩ := hr k e.symm; rw [h] at ho; cases ho; cases hc)).trans h
theorem kpT_t {n₁ Bc t : Nat} {A B C : World} (h : KpT n₁ Bc t A B) (k : KpT n₁ Bc t B C) : KpT n₁ Bc t A C := ⟨h.1.trans k.1, fun cs hb => k.2 cs (h.2 cs hb)⟩
theorem belowK_b {n₁ : Nat} {w : World} (hn : n₁ ≤ w.heap.size) (W : World) (l : Nat) (o o' : Obj) (hl : w.heap.size ≤ l) (h : W.heap[l]? = some o) (hc : o.isCells = false) (hw : o.isWalk = false) : Below n₁ W (W.putObj l o') :=
  (Below.refl n₁ W).grown (grownBy_putObj' W l o') (Nat.le_trans hn (by have := (Array.getElem?_eq_some_iff.1 h).1; omega)) (fun k e => by cases e; omega)
theorem kpT_b {n₁ Bc t : Nat} {w : World} (hn : n₁ ≤ w.heap.size) (W : World) (l : Nat) (o o' : Obj) (hl : w.heap.size ≤ l) (h : W.heap[l]? = some o) (hc : o.isCells = false) (hw : o.isWalk = false) : KpT n₁ Bc t W (W.putObj l o') :=
  ⟨belowK_b hn W l o o' hl h hc hw, fun cs hb => cells_kept hb (grownBy_putObj' W l o') (fun r e => by cases e; exact ⟨o, h, hc⟩)⟩
theorem abides_below {β : Type} {B : Nat} {J : β → World → Prop} (hJ : AbidesFrom B J) {s : β} {W W' : World} (h : J s W) (hb : Below W.heap.size W W') : J s W' :=
  hJ s W W' none h ⟨hb.os, hb.tape, hb.output, hb.size, fun k hk _ => hb.block k hk⟩ (fun r e => by cases e)
set_option maxRecDepth 100000 in
set_option maxHeartbeats 8000000 in
theorem frames1_in (n : Nat) (hn : 1 ≤ n) (k lq Bl : Nat) (A0 : Option Addr) (c0 : Nat) (b : List Int) (w : World) (hr0 : Kd.C (Kd.int .u8) w A0 b.length b) (hc0 : b.length ≤ c0) (hlen : b.length ≤ 1000000) (hok : ∀ i, i ≤ b.length → openOK k (b.drop i) = true)
    (W : World) (hwW : Below w.heap.size w W) (hBl : W.heap[Bl]? = some (.cells #[.slice A0 b.length c0] 60 (0, 0)))
    (J Jx : List FX → World → Prop) (hJ : AbidesFrom W.heap.size J)
    (hY : ∀ pre x W1, J pre W1 → CxF k b pre x W1 → pre.length < b.length + 1 → YieldAt Fence.wide (n - 1) Try.prog lq (encF x) W1 fun e W' =>
      (e = .returned (.bool true) ∧ J (pre ++ [x]) W' ∧ KpT w.heap.size Bl 60 W1 W') ∨ (e = .returned (.bool false) ∧ Jx (pre ++ [x]) W'))
    (h0 : J [] W) :
    CallsIn Fence.wide n Try.prog 115 #[.func (.yield lq) #[] #[], .pointer (some ⟨Bl, 0, none⟩)] W fun e W' => (∃ v, e = .returned v) ∧
      ((∃ xs, SF k b xs ∧ J xs W') ∨ (∃ pre, True ∧ Jx pre W')) := by
  refine callsIn_of_wp Try.func115 rfl trivial ?_ rfl
  simp only [Try.ntmps115, List.size_toArray, List.length_cons, List.length_nil, Nat.reduceAdd, Nat.reduceSub, Array.replicate_succ, Array.replicate_zero, List.push_toArray, List.append_toArray, List.nil_append, List.cons_append]
  have HJA := Aside0.mk hJ
  have HY := Aside0.mk hY
  have HR := Aside0.mk hr0
  have HC := Aside0.mk hc0
  have HL := Aside0.mk hlen
  have HOK := Aside0.mk hok
  have HJ0 := Aside0.mk h0
  have HBL0 := Aside0.mk hBl
  have HW0 := Aside0.mk hwW
  have HWW := Aside0.mk (Below.refl W.heap.size W)
  clear hJ hY hr0 hc0 hlen hok h0 hBl hwW
  gi_wp2
  gi_loopw [3] (fun v wr => ∃ (xs : List FX) (e : Nat), v = .int .i64 (e : Int) ∧ Aside0 (endF 0 xs = (e : Int)) ∧ Aside0 (e ≤ b.length) ∧ Aside0 (xs.length ≤ e) ∧ Aside0 (goodF k b 0 xs) ∧ Aside0 (J xs wr) ∧ Aside0 (Below w.heap.size w wr) ∧ Aside0 (wr.heap[Bl]? = some (.cells #[.slice A0 b.length c0] 60 (0, 0))))
    (fun v _ => b.length - (intOf v).toNat)
  case atStart => exact ⟨[], 0, rfl, ⟨rfl⟩, ⟨Nat.zero_le _⟩, ⟨Nat.le_refl _⟩, ⟨trivial⟩, HJ0, HW0, HBL0⟩
  case round =>
    obtain ⟨xs, e, rfl, HE, HLE, HXL, HG, HJ, HB, HBL⟩ := hrel
    clear HBL0 HW0
    obtain ⟨ct, fn, fe, ho, hn0⟩ := openOK_some (HOK.out e HLE.out)
    have h0 : (0 : Int) ≤ (e : Int) := by omega
    have h1 : (e : Int) ≤ (b.length : Int) := by have := HLE.out; omega
    obtain ⟨i0, hi0, _, hsz, _⟩ := info_parts info5
    obtain ⟨Ac, hcut, hA, hCc⟩ := print_drop_of (P := Try.prog) (Value.int .u8) 0 60 5 .i64 Try.underlying60 hi0 hsz A0 c0 b (e : Int) h0 h1 HC.out
    have HRc := Aside0.mk (Kd.C_of_reads (h1 := fun _ => rfl) (hA _ (Kd.reads_of_C HR.out)))
    have HCc := Aside0.mk hCc
    have HO : Aside0 (crc_Open.f k (b.drop (e : Int).toNat) = some (ct, fn, fe)) := ⟨by rw [Int.toNat_natCast]; exact ho⟩
    have HN := Aside0.mk hn0
    have hcall := crc_Open.calls k Ac (c0 - (e : Int).toNat) (b.drop (e : Int).toNat) ct fn fe wr (Kd.C_below HRc.out HB.out) HCc.out HO.out
    simp only [List.length_drop, Int.toNat_natCast] at hcall
    have HCALL := Aside0.mk hcall
    clear hA hCc hi0 hsz ho hn0 hcall
    have hbl := blk_cell HBL.out
    by_cases hz : fe = 0
    · subst hz
      obtain ⟨hf0, hf1⟩ := HN.out rfl
      rw [List.length_drop] at hf1
      obtain ⟨m, rfl⟩ : ∃ m : Nat, fn = (m : Int) := ⟨fn.toNat, by omega⟩
      have hm0 : 0 < m := by omega
      have hm1 : e + m ≤ b.length := by have := HLE.out; omega
      have hsm : (e : Int) + (m : Int) ≤ 1000000 := by have := HL.out; omega
      have hs0 : (0 : Int) ≤ (e : Int) + (m : Int) := by omega
      have HM0 := Aside0.mk hm0
      have HM1 := Aside0.mk hm1
      clear hf0 hf1 hm0 hm1 HN
      gi_wp2_with (fail)
      refine ⟨trivial, (callsIn_wide.2 HCALL.out).mono ?_⟩
      rintro e1 W1 ⟨v, rfl, hown, hb⟩
      obtain ⟨A1, c1, rfl⟩ := Kd.R_slice hown; have HO1 := Aside0.mk hown; have HB1 := Aside0.mk (below_step HB.out hb); have HJ1 := Aside0.mk (abides_below HJA.out HJ.out hb); have HBL1 := Aside0.mk (blk_below HBL.out hb); have HCX : Aside0 (CxF k b xs ((A1, c1), (ct, (e : Int) + (m : Int))) W1) := ⟨goodF_snoc HG.out ⟨m, by rw [HE.out]; exact HO.out, by rw [HE.out]⟩, (Kd.R_reads' hown).2.2, (Kd.R_reads' hown).2.1⟩; obtain ⟨yfn, ytmps, yassign, ybody, hy, hR⟩ := HY.out xs ((A1, c1), (ct, (e : Int) + (m : Int))) W1 HJ1.out HCX.out (by have := HXL.out; have := HLE.out; omega); dsimp only [encF] at hy; clear hown hb
      gi_wp2
      refine hR.mono ?_
      rintro e W3 (⟨rfl, hJ3, hk3, hk4⟩ | ⟨rfl, hJx3⟩)
      · gi_wp2
        go_roundw
        case rel => exact ⟨xs ++ [(((A1, c1), (ct, (e : Int) + (m : Int))) : FX)], e + m, by first | rfl | (simp; done) | go_num, ⟨by rw [endF_snoc]; simp⟩, HM1, ⟨by have := HXL.out; have := HM0.out; simp; omega⟩, ⟨HCX.out.1⟩, ⟨hJ3⟩, ⟨HB1.out.trans hk3⟩, ⟨hk4 _ HBL1.out⟩⟩
        case measure => have := HM0.out; have := HM1.out; simp [intOf]; omega
      · gi_wp2
        refine bodyPost_ret (results_none rfl _ _ _) rfl ?_
        exact ⟨⟨_, rfl⟩, .inr ⟨_, trivial, hJx3⟩⟩
    · have hz2 : (fe != 0) = true := by simp; exact hz
      have HZ := Aside0.mk hz
      clear hz HN
      gi_wp2_with (fail)
      refine ⟨trivial, (callsIn_wide.2 HCALL.out).mono ?_⟩
      rintro e1 W1 ⟨v, rfl, hown, hb⟩
      obtain ⟨A1, c1, rfl⟩ := Kd.R_slice hown
      have HJ1 := Aside0.mk (abides_below HJA.out HJ.out hb)
      clear hown hb
      gi_wp2
      refine bodyPost_ret (results_none rfl _ _ _) rfl ?_
      exact ⟨⟨_, rfl⟩, .inl ⟨xs, ⟨HG.out, _, _, _, by rw [HE.out]; exact HO.out, HZ.out⟩, HJ1.out⟩⟩
/-- The function that journal.frames hands back, for a range statement. -/
theorem frames_told (n : Nat) (hn : 1 ≤ n) (k Bl : Nat) (A0 : Option Addr) (c0 : Nat) (b : List Int) (w w0 : World) (hr0 : Kd.C (Kd.int .u8) w A0 b.length b) (hc0 : b.length ≤ c0) (hlen : b.length ≤ 1000000) (hok : ∀ i, i ≤ b.length → openOK k (b.drop i) = true)
    (hw : Below w.heap.size w w0) (hBl : w0.heap[Bl]? = some (.cells #[.slice A0 b.length c0] 60 (0, 0))) :
    SeqTold Fence.wide n Try.prog 115 #[.pointer (some ⟨Bl, 0, none⟩)] encF (CxF k b) (KpT w.heap.size Bl 60) (SF k b) (fun _ => True) (b.length + 1) w0 := fun lq J Jx W hW hJ hJx hY h0 =>
  frames1_in n hn k lq Bl A0 c0 b w hr0 hc0 hlen hok W (below_step hw hW) (blk_below hBl hW) J Jx hJ hY h0
set_option maxRecDepth 100000 in
set_option maxHeartbeats 1000000 in
theorem frames_call (A0 : Option Addr) (c0 n : Nat) (w : World) :
    Calls Try.prog 86 #[.slice A0 n c0] w fun e w' => e = .returned (.func (.func 115) #[] #[.pointer (some ⟨w.heap.size, 0, none⟩)]) ∧
      Below w.heap.size w w' ∧ w'.heap.size = w.heap.size + 1 ∧ w'.heap[w.heap.size]? = some (.cells #[.slice A0 n c0] 60 (0, 0)) := by
  go_enter Try.func86, Try.ntmps86
  go_wp2
  go_ret
  exact ⟨rfl, below_alloc (Below.refl _ _) _, by rw [World.size_alloc], blk_new _ _⟩
end Go.Proofs.Yteopkkoblbmggaa.P
end
section
set_option linter.unusedVariables false
set_option linter.unusedSimpArgs false
namespace Go.Proofs.Yteopkkoblbmggaa.P
open Go.RowKit Go.Proofs.YteopkkoblbmggaaW.PrintWords Go.Proofs.YteopkkoblbmggaaW.PrintLast Go.Proofs.YteopkkoblbmggaaW.PrintMore
theorem eqlNilE (w : World) (t e : TypeId) (a : Option Addr) (l c : Nat) (h : Try.prog.underlying t = some (.slice e)) : (binOp .eql t (.slice a l c) (.slice none 0 0)).run Try.prog w = .ok (.bool a.isNone) w := by
  simp only [binOp]
  simp [run_equal_slice_nil w t e a l c h]
def slices_Clone_edits.f (l0 : List S30) : Option (List S30) := if l0.length ≤ 1000000000000 then some l0 else none
set_option maxHeartbeats 4000000 in
set_option maxRecDepth 100000 in
theorem slices_Clone_edits.calls (A0 : Option Addr) (c0 : Nat) (l0 r : List S30) (w : World) (hr0 : Kd.C k30 w A0 l0.length l0) (hc0 : l0.length ≤ c0) (h : slices_Clone_edits.f l0 = some r) :
    Calls Try.prog 55 #[.slice A0 l0.length c0] w fun e w' => ∃ v_ : Value, e = .returned v_ ∧ Kd.R k30 30 w' w.heap.size (fun _ => True) v_ r ∧ Below w.heap.size w w' := by
  unfold slices_Clone_edits.f at h
  by_cases hl : l0.length ≤ 1000000000000
  rotate_left
  · rw [if_neg hl] at h; cases h
  rw [if_pos hl] at h
  cases h
  have HR := Aside0.mk hr0
  have HL := Aside0.mk hl
  have HB := Aside0.mk (Below.refl w.heap.size w)
  have hus := Try.underlying22
  have hen := fun (w : World) (a : Option Addr) (l c : Nat) => eqlNilE w _ _ a l c hus
  clear hl
  cases A0 with
  | none =>
    have hn : l0 = [] := by
      rcases Nat.eq_zero_or_pos l0.length with h0 | h0
      · exact List.length_eq_zero_iff.mp h0
      · obtain ⟨ad, e, _⟩ := hr0.2.2 h0
        cases e
    subst hn
    clear hr0
    go_enter Try.func55, Try.ntmps55
    go_wp2
    go_ret
    exact ⟨_, rfl, Kd.R_nil _ _ _ _ _, HB.out⟩
  | some ad =>
    clear hr0
    go_enter Try.func55, Try.ntmps55
    go_wp2_with (first | ((with_reducible refine gate_dst (N := 5) rfl ?_); refine Kd.R_lit k30 (w0 := w) w.heap.size 30 ?hg (N := 5) ?hd (xs := []) (inner := []) (ok := fun _ => True) (okp := fun _ => True) ?hr (Reps.none _ _) (fun _ hk => hk) trivial HB.out (Nat.le_refl _) (by simp) ?_; (case hd => rfl); (case hg => rfl); (case hr => first | (go_simp; done) | (go_simp; rfl)); intro v1 w1 ho hb hg_ hnew_; have HO := Aside0.mk ho; have HB1 := Aside0.mk hb; clear ho hb hg_ hnew_) | ((with_reducible refine gate_dst (N := 7) rfl ?_); at_builtin; refine Kd.R_append_rows k30 (w0 := w) w.heap.size rfl (.tmp 5) (.tmp 6) 22 30 (.agg #[(.int .i64 0), (.int .i64 0), (.int .i64 0), (.int .i64 0), (.int .i64 0), (.bool false), (.int .i64 0), (.int .i64 0), (.int .i64 0), (.int .i64 0), (.int .i64 0), (.int .i64 0), (.int .i64 0)]) 104 rfl Try.underlying22 info30 rfl (by decide) (by omega) v1 [] l0 (some ad) l0.length c0 (fun _ => True) (fun _ => False) rfl rfl HO.out (Kd.C_below HR.out HB1.out) (fun _ _ h => h) (fun _ h => h.elim) (fun _ _ => trivial) HB1.out (below_size HB1.out) (by have := HL.out; simp; omega) ?_; intro v2 w2 ho hb hg_ hnew_; have HO2 := Aside0.mk ho; have HB2 := Aside0.mk hb; clear ho hb hg_ hnew_))
    go_ret
    exact ⟨_, rfl, by have h_ := HO2.out; rw [List.nil_append] at h_; exact h_, HB2.out⟩
end Go.Proofs.Yteopkkoblbmggaa.P
end

/- Texts of this claim in one: VP74, VP75; no condition. -/
import Derived.Test.YteopkkoblbmggaaQAC
import Derived.Test.YteopkkoblbmggaaQAE
import Derived.Test.YteopkkoblbmggaaQAX
section
namespace Go.Proofs.Yteopkkoblbmggaa.P
open Go.RowKit Go.Proofs.YteopkkoblbmggaaW.PrintWords Go.Proofs.YteopkkoblbmggaaW.PrintLast Go.Proofs.YteopkkoblbmggaaW.PrintMore
attribute [local go_sem] Y11 Y13 Y19 Y1a YR YS Y12 Y14
set_option linter.unusedVariables false
set_option linter.unusedSimpArgs false
def Ym.f (k : Nat) (l0 : List Int) : Option (List Int × Int × Int) := (Y7.f k l0).bind fun b_0 => (if b_0.2.2 = 0 then (if b_0.1 < 0 then (some (([] : List Int), 0, 2)) else (if b_0.1 > 65536 then (some (([] : List Int), 0, 3)) else (if (l0.length : Int) < (wrap64 ((wrap64 (b_0.2.1 + 4)) + b_0.1)) then (some (([] : List Int), 0, 13)) else (if 0 ≤ b_0.2.1 then (if b_0.2.1 ≤ (l0.length : Int) then ((YT.f k (l0.take (b_0.2.1 : Int).toNat)).bind fun t_4 => (if 0 ≤ (wrap64 (b_0.2.1 + 4)) then (if (wrap64 (b_0.2.1 + 4)) ≤ (wrap64 ((wrap64 (b_0.2.1 + 4)) + b_0.1)) then (if (wrap64 ((wrap64 (b_0.2.1 + 4)) + b_0.1)) ≤ (l0.length : Int) then ((Yb.f k t_4 ((l0.take ((wrap64 ((wrap64 (b_0.2.1 + 4)) + b_0.1)) : Int).toNat).drop ((wrap64 (b_0.2.1 + 4)) : Int).toNat)).bind fun t_3 => ((Y17.f t_3).bind fun t_2 => (if b_0.2.1 ≤ (wrap64 (b_0.2.1 + 4)) then (if (wrap64 (b_0.2.1 + 4)) ≤ (l0.length : Int) then ((Y1c.f t_2 ((l0.take ((wrap64 (b_0.2.1 + 4)) : Int).toNat).drop (b_0.2.1 : Int).toNat)).bind fun t_6 => (if t_6 = true then (if ([] : List Int).length + ((l0.take ((wrap64 ((wrap64 (b_0.2.1 + 4)) + b_0.1)) : Int).toNat).drop ((wrap64 (b_0.2.1 + 4)) : Int).toNat).length < 140737488355328 then (some ((([] : List Int) ++ ((l0.take ((wrap64 ((wrap64 (b_0.2.1 + 4)) + b_0.1)) : Int).toNat).drop ((wrap64 (b_0.2.1 + 4)) : Int).toNat)), wrap64 ((wrap64 (b_0.2.1 + 4)) + b_0.1), 0)) else (none)) else (some (([] : List Int), 0, 14)))) else (none)) else (none)))) else (none)) else (none)) else (none))) else (none)) else (none))))) else (some (([] : List Int), 0, b_0.2.2)))
theorem Ym.mono : ∀ a0 k, LeO (Ym.f k a0) (Ym.f (k + 1) a0) := by
 intro a0 k
 unfold Ym.f
 repeat' first
   | (with_reducible exact Y7.mono _ _)
   | (with_reducible exact Yb.mono _ _ _)
   | (with_reducible exact YT.mono _ _)
   | (with_reducible exact LeO.refl _)
   | (with_reducible exact LeO.none _)
   | (with_reducible refine LeO.ite ?_ ?_)
   | (with_reducible refine LeO.bind ?_ (fun _ => ?_))
def Ym.T10 : Bool × List (List Nat × List Nat) := (true, [([], []), ([], []), ([0, 1], [0, 1]), ([2], [2]), ([], []), ([], []), ([5], [5]), ([], []), ([7], [7]), ([], []), ([8, 9], [8, 9]), ([4, 6, 10], [4, 6, 10]), ([3, 11, 3], [3, 11]), ([12, 12, 0, 1, 2, 3, 4, 5, 6, 7, 8, 9, 10, 11, 12], [12])])
def Ym.B10 : List Nat := [0, 0, 3, 7, 0, 0, 32, 0, 128, 0, 896, 2032, 4095, 8191]
theorem Ym.tab10 : rtab .any (opsOf Try.f88 10) = Ym.T10 := by kernel_rfl
theorem Ym.bits10 : Y22 Ym.T10.2 Ym.B10 = true := by kernel_rfl
def Ym.T11 : Bool × List (List Nat × List Nat) := (true, [([], []), ([0], [0]), ([], []), ([], []), ([], []), ([4], [4]), ([2, 3, 5], [2, 3, 5]), ([1, 6, 1], [1, 6]), ([7], [7])])
def Ym.B11 : List Nat := [0, 1, 0, 0, 0, 16, 60, 127, 255]
theorem Ym.tab11 : rtab .any (opsOf Try.f88 11) = Ym.T11 := by kernel_rfl
theorem Ym.bits11 : Y22 Ym.T11.2 Ym.B11 = true := by kernel_rfl
set_option maxHeartbeats 8000000 in
set_option maxRecDepth 100000 in
theorem Ym.calls (k : Nat) (A0 : Option Addr) (c0 : Nat) (l0 : List Int) (r1 : List Int) (r2 : Int) (r3 : Int) (w : World) (hr0 : Kd.C (Kd.int .u8) w A0 l0.length l0) (hc0 : l0.length ≤ c0) (h : Ym.f k l0 = some (r1, r2, r3)) :
  Calls Try.prog 88 #[.slice A0 l0.length c0] w fun e w' => ∃ v0_ : Value, e = .returned (.tuple #[v0_, .int .i64 r2, .int .i64 r3]) ∧ Kd.R (Kd.int .u8) 5 w' w.heap.size (fun _ => True) v0_ r1 ∧ Below w.heap.size w w' := by
 have HR0 := Y0.mk hr0
 have HC0 := Y0.mk hc0
 clear hr0 hc0
 have HB := Y0.mk (Below.refl w.heap.size w)
 have H : ((Y7.f k l0).bind fun b_0 => (if b_0.2.2 = 0 then (if b_0.1 < 0 then (some (([] : List Int), 0, 2)) else (if b_0.1 > 65536 then (some (([] : List Int), 0, 3)) else (if (l0.length : Int) < (wrap64 ((wrap64 (b_0.2.1 + 4)) + b_0.1)) then (some (([] : List Int), 0, 13)) else (if 0 ≤ b_0.2.1 then (if b_0.2.1 ≤ (l0.length : Int) then ((YT.f k (l0.take (b_0.2.1 : Int).toNat)).bind fun t_4 => (if 0 ≤ (wrap64 (b_0.2.1 + 4)) then (if (wrap64 (b_0.2.1 + 4)) ≤ (wrap64 ((wrap64 (b_0.2.1 + 4)) + b_0.1)) then (if (wrap64 ((wrap64 (b_0.2.1 + 4)) + b_0.1)) ≤ (l0.length : Int) then ((Yb.f k t_4 ((l0.take ((wrap64 ((wrap64 (b_0.2.1 + 4)) + b_0.1)) : Int).toNat).drop ((wrap64 (b_0.2.1 + 4)) : Int).toNat)).bind fun t_3 => ((Y17.f t_3).bind fun t_2 => (if b_0.2.1 ≤ (wrap64 (b_0.2.1 + 4)) then (if (wrap64 (b_0.2.1 + 4)) ≤ (l0.length : Int) then ((Y1c.f t_2 ((l0.take ((wrap64 (b_0.2.1 + 4)) : Int).toNat).drop (b_0.2.1 : Int).toNat)).bind fun t_6 => (if t_6 = true then (if ([] : List Int).length + ((l0.take ((wrap64 ((wrap64 (b_0.2.1 + 4)) + b_0.1)) : Int).toNat).drop ((wrap64 (b_0.2.1 + 4)) : Int).toNat).length < 140737488355328 then (some ((([] : List Int) ++ ((l0.take ((wrap64 ((wrap64 (b_0.2.1 + 4)) + b_0.1)) : Int).toNat).drop ((wrap64 (b_0.2.1 + 4)) : Int).toNat)), wrap64 ((wrap64 (b_0.2.1 + 4)) + b_0.1), 0)) else (none)) else (some (([] : List Int), 0, 14)))) else (none)) else (none)))) else (none)) else (none)) else (none))) else (none)) else (none))))) else (some (([] : List Int), 0, b_0.2.2)))) = some (r1, r2, r3) := h
 clear h
 obtain ⟨⟨t_0, t_1, t_5⟩, A20, H⟩ := bS H
 try dsimp only at H
 have A2 := Y0.mk A20
 clear A20
 by_cases c3 : t_5 = 0
 ·rw [if_pos c3] at H
  have c3b0 := bqT c3
  have c3b1 := bnF c3
  clear c3
  by_cases c4 : t_0 < 0
  ·rw [if_pos c4] at H
   have c4b0 := decide_eq_true c4
   clear c4
   simp only [Option.some.injEq, Prod.mk.injEq] at H
   obtain ⟨rfl, rfl, rfl⟩ := H
   go_enter Try.func88, Try.ntmps88
   go_wp2_with (first | ((with_reducible refine Y8 (f := 118) rfl ?_); refine goesA (some 12) Try.func118 #[.slice A0 l0.length c0] ?_; (with_reducible refine (Y7.calls k _ _ l0 t_0 t_1 t_5 _ ?side1 ?side2 A2.out).mono ?_); (case side1 => repeat (first | exact HR0.out | (with_reducible refine Kd.C_alloc ?_ _) | (with_reducible refine Kd.C_drewN ?_ _) | (with_reducible refine Kd.C_drew ?_))); (case side2 => exact HC0.out); rintro e w' ⟨rfl, ⟨nd, rfl⟩⟩; refine ⟨_, rfl, ?_⟩))
   go_ret3
   exact ⟨_, reT, by first | exact Kd.R_nil _ _ _ _ _ | exact Kd.N_nil _ _ _ _ _ | exact Kd.V_nil _ _ _ _ _ | exact Kd.Q_nil _ _ _ _ _ | exact Kd.S_nil _ _ _ _ _, hU HB.out⟩
  ·rw [if_neg c4] at H
   have c4b0 := decide_eq_false c4
   clear c4
   by_cases c5 : t_0 > 65536
   ·rw [if_pos c5] at H
    have c5b0 := decide_eq_true c5
    clear c5
    simp only [Option.some.injEq, Prod.mk.injEq] at H
    obtain ⟨rfl, rfl, rfl⟩ := H
    go_enter Try.func88, Try.ntmps88
    go_wp2_with (first | ((with_reducible refine Y8 (f := 118) rfl ?_); refine goesA (some 12) Try.func118 #[.slice A0 l0.length c0] ?_; (with_reducible refine (Y7.calls k _ _ l0 t_0 t_1 t_5 _ ?side1 ?side2 A2.out).mono ?_); (case side1 => repeat (first | exact HR0.out | (with_reducible refine Kd.C_alloc ?_ _) | (with_reducible refine Kd.C_drewN ?_ _) | (with_reducible refine Kd.C_drew ?_))); (case side2 => exact HC0.out); rintro e w' ⟨rfl, ⟨nd, rfl⟩⟩; refine ⟨_, rfl, ?_⟩))
    go_ret3
    exact ⟨_, reT, by first | exact Kd.R_nil _ _ _ _ _ | exact Kd.N_nil _ _ _ _ _ | exact Kd.V_nil _ _ _ _ _ | exact Kd.Q_nil _ _ _ _ _ | exact Kd.S_nil _ _ _ _ _, hU HB.out⟩
   ·rw [if_neg c5] at H
    have c5b0 := decide_eq_false c5
    clear c5
    by_cases c6 : (l0.length : Int) < (wrap64 ((wrap64 (t_1 + 4)) + t_0))
    ·rw [if_pos c6] at H
     have c6b0 := decide_eq_true c6
     clear c6
     simp only [Option.some.injEq, Prod.mk.injEq] at H
     obtain ⟨rfl, rfl, rfl⟩ := H
     go_enter Try.func88, Try.ntmps88
     go_wp2_with (first | ((with_reducible refine Y8 (f := 118) rfl ?_); refine goesA (some 12) Try.func118 #[.slice A0 l0.length c0] ?_; (with_reducible refine (Y7.calls k _ _ l0 t_0 t_1 t_5 _ ?side1 ?side2 A2.out).mono ?_); (case side1 => repeat (first | exact HR0.out | (with_reducible refine Kd.C_alloc ?_ _) | (with_reducible refine Kd.C_drewN ?_ _) | (with_reducible refine Kd.C_drew ?_))); (case side2 => exact HC0.out); rintro e w' ⟨rfl, ⟨nd, rfl⟩⟩; refine ⟨_, rfl, ?_⟩))
     go_ret3
     exact ⟨_, reT, by first | exact Kd.R_nil _ _ _ _ _ | exact Kd.N_nil _ _ _ _ _ | exact Kd.V_nil _ _ _ _ _ | exact Kd.Q_nil _ _ _ _ _ | exact Kd.S_nil _ _ _ _ _, hU HB.out⟩
    ·rw [if_neg c6] at H
     have c6b0 := decide_eq_false c6
     clear c6
     obtain ⟨c7, H⟩ := iS H
     have c7b0 := eq_true c7
     have c7b1 := decide_eq_true c7
     clear c7
     obtain ⟨c8, H⟩ := iS H
     have c8b0 := eq_true c8
     have c8b1 := decide_eq_true c8
     clear c8
     obtain ⟨t_4, A90, H⟩ := bS H
     try dsimp only at H
     have A9 := Y0.mk A90
     clear A90
     obtain ⟨ji10, hji10⟩ : ∃ j_ : Int, (wrap64 (t_1 + 4)) = j_ := ⟨_, rfl⟩
     replace H : (if 0 ≤ (ji10) then (if (ji10) ≤ (wrap64 ((ji10) + t_0)) then (if (wrap64 ((ji10) + t_0)) ≤ (l0.length : Int) then ((Yb.f k t_4 ((l0.take ((wrap64 ((ji10) + t_0)) : Int).toNat).drop ((ji10) : Int).toNat)).bind fun t_3 => ((Y17.f t_3).bind fun t_2 => (if t_1 ≤ (ji10) then (if (ji10) ≤ (l0.length : Int) then ((Y1c.f t_2 ((l0.take ((ji10) : Int).toNat).drop (t_1 : Int).toNat)).bind fun t_6 => (if t_6 = true then (if ([] : List Int).length + ((l0.take ((wrap64 ((ji10) + t_0)) : Int).toNat).drop ((ji10) : Int).toNat).length < 140737488355328 then (some ((([] : List Int) ++ ((l0.take ((wrap64 ((ji10) + t_0)) : Int).toNat).drop ((ji10) : Int).toNat)), wrap64 ((ji10) + t_0), 0)) else (none)) else (some (([] : List Int), 0, 14)))) else (none)) else (none)))) else (none)) else (none)) else (none)) = some (r1, r2, r3) := by first | (rw [hji10] at H; exact H) | (simp only [hji10] at H ⊢; exact H)
     (try rw [hji10] at c6b0)
     (try rw [hji10] at A2)
     (try rw [hji10] at A9)
     have hji10w : (IntKind.i64.wrap (t_1 + 4)) = ji10 := (i64_w _).trans hji10
     obtain ⟨c11, H⟩ := iS H
     have c11b0 := eq_true c11
     have c11b1 := decide_eq_true c11
     clear c11
     obtain ⟨c12, H⟩ := iS H
     have c12b0 := eq_true c12
     have c12b1 := decide_eq_true c12
     obtain ⟨c13, H⟩ := iS H
     have c13b0 := eq_true c13
     have c13b1 := decide_eq_true c13
     obtain ⟨t_3, A140, H⟩ := bS H
     try dsimp only at H
     have A14 := Y0.mk A140
     clear A140
     obtain ⟨t_2, A150, H⟩ := bS H
     try dsimp only at H
     have A15 := Y0.mk A150
     clear A150
     have c16b0 := eq_true (of_decide_eq_true (by first | (with_reducible assumption) | assumption) : 0 ≤ t_1)
     obtain ⟨c17, H⟩ := iS H
     have c17b0 := eq_true c17
     have c17b1 := decide_eq_true c17
     clear c17
     obtain ⟨c18, H⟩ := iS H
     have c18b0 := eq_true c18
     have c18b1 := decide_eq_true c18
     clear c18
     obtain ⟨t_6, A190, H⟩ := bS H
     try dsimp only at H
     have A19 := Y0.mk A190
     clear A190
     by_cases c20 : t_6 = true
     ·subst c20
      rw [if_pos rfl] at H
      have c21b0 := eq_true (of_decide_eq_true (by first | (with_reducible assumption) | assumption) : 0 ≤ (ji10))
      have c22b0 := eq_true (of_decide_eq_true (by first | (with_reducible assumption) | assumption) : (ji10) ≤ (wrap64 ((ji10) + t_0)))
      have c23b0 := eq_true (of_decide_eq_true (by first | (with_reducible assumption) | assumption) : (wrap64 ((ji10) + t_0)) ≤ (l0.length : Int))
      obtain ⟨c24, H⟩ := iS H
      have LMc24 := Y0.mk c24
      clear c24
      obtain ⟨y1379, hy1379⟩ : ∃ y_ : List Int, y_ = (([] : List Int) ++ ((l0.take ((wrap64 ((ji10) + t_0)) : Int).toNat).drop ((ji10) : Int).toNat)) := ⟨_, rfl⟩
      replace H : (some (y1379, wrap64 ((ji10) + t_0), 0)) = some (r1, r2, r3) := by first | (rw [hy1379]; with_reducible exact H) | (have H2_ := (Option.bind_some _ _).symm.trans H; rw [hy1379]; with_reducible exact H2_) | (have H2_ := (Option.bind_some _ _).symm.trans H; with_reducible exact H2_) | with_reducible exact H | (rw [hy1379]; exact H) | exact H
      have Ny1379 := Y0.mk hy1379
      clear hy1379
      simp only [Option.some.injEq, Prod.mk.injEq] at H
      obtain ⟨rfl, rfl, rfl⟩ := H
      go_enter Try.func88, Try.ntmps88
      try go_wp2_with (first | ((with_reducible refine Y8 (f := 118) rfl ?_); refine goesA (some 12) Try.func118 #[.slice A0 l0.length c0] ?_; (with_reducible refine (Y7.calls k _ _ l0 t_0 t_1 t_5 _ ?side1 ?side2 A2.out).mono ?_); (case side1 => repeat (first | exact HR0.out | (with_reducible refine Kd.C_alloc ?_ _) | (with_reducible refine Kd.C_drewN ?_ _) | (with_reducible refine Kd.C_drew ?_))); (case side2 => exact HC0.out); rintro e w' ⟨rfl, ⟨nd, rfl⟩⟩; refine ⟨_, rfl, ?_⟩))
      replace HB := Y0.mk (YC HB.out)
      obtain ⟨i026, hi026, _, hsz26, _⟩ := info_parts info5
      obtain ⟨hcut26, hA26, hC26⟩ := Y20 (P := Try.prog) (Value.int .u8) 0 60 5 .i64 Try.underlying60 hi026 hsz26 A0 c0 l0 t_1 (of_decide_eq_true (by first | (with_reducible assumption) | assumption)) (of_decide_eq_true (by first | (with_reducible assumption) | assumption)) HC0.out
      have HR1369 := Y0.mk (Kd.C_of_reads (h1 := fun _ => rfl) (hA26 _ (Kd.reads_of_C HR0.out)))
      have HC1369 := Y0.mk hC26
      clear hA26 hC26 hi026 hsz26
      obtain ⟨i027, hi027, _, hsz27, _⟩ := info_parts info5
      obtain ⟨A27, hcut27, hA27, hC27⟩ := Y1I (P := Try.prog) (Value.int .u8) 0 60 5 .i64 .i64 Try.underlying60 hi027 hsz27 A0 c0 l0 (ji10) (wrap64 ((ji10) + t_0)) (of_decide_eq_true (by first | (with_reducible assumption) | assumption)) (by first | omega | exact of_decide_eq_true (by first | (with_reducible assumption) | assumption)) (of_decide_eq_true (by first | (with_reducible assumption) | assumption)) HC0.out
      have HR1371 := Y0.mk (Kd.C_of_reads (h1 := fun _ => rfl) (hA27 _ (Kd.reads_of_C HR0.out)))
      have HC1371 := Y0.mk hC27
      clear hA27 hC27 hi027 hsz27
      refine Y1w (n := 14) (S := fun w' => True) (ds := []) #[false, false, false, false, false, false, false, false, false, false, false, false, false, false] (by kernel_rfl) rfl rfl trivial (fun hHeld => ?_); refine Y1q Ym.tab10 Ym.bits10 (fun HT_ HW_ => ?_)
      (first | (generalize hW_ : World.drew (World.drewN w _) = w25 at hHeld ⊢; have n0_ : Y0 (Below w.heap.size w w25) := ⟨by rw [← hW_]; exact ⟨HB.out.os, HB.out.tape, HB.out.output, HB.out.size, HB.out.block⟩⟩; clear HB hW_; have HB := n0_; clear n0_) | generalize w.drew = w25 at HB HR1369 HR1371 hHeld ⊢)
      refine puA 0 30 (bs 14 1) ?_
      refine puA 1 31 (bs 14 3) ?_
      refine puA 2 32 (bs 14 7) ?_
      refine puA 4 34 (bs 14 23) ?_
      refine puA 5 35 (bs 14 55) ?_
      refine puA 6 36 (bs 14 119) ?_
      refine puA 7 37 (bs 14 247) ?_
      refine puA 8 38 (bs 14 503) ?_
      refine puA 9 39 (bs 14 1015) ?_
      refine puA 10 40 (bs 14 2039) ?_
      refine puA 11 41 (bs 14 4087) ?_
      refine one_ (i := 3) (N := some 33) (bs 14 4095) rfl rfl (Y1N HT_.out (by kernel_rfl)) (by decide) (fun K hK => ?_)
      refine goes_ Try.func120 (by kernel_rfl) rfl #[.slice A0 (l0.take (t_1 : Int).toNat).length c0] (by rfl) rfl rfl (by (try simp only [List.map_toArray, List.map_cons, List.map_nil]); first | done | (rw [show (l0.take (t_1 : Int).toNat).length = t_1.toNat from (by rw [List.length_take]; have h_ : (t_1 : Int) ≤ (l0.length : Int) := of_decide_eq_true (by first | (with_reducible assumption) | assumption); omega)] <;> rfl) | rfl | (simp only [List.length_drop, List.length_take]; rfl)) ?_
      with_reducible refine (YT.calls k _ _ (l0.take (t_1 : Int).toNat) t_4 _ ?side1 ?side2 A9.out).mono ?_
      (case side1 => repeat (first | exact (Kd.C_below HR1369.out HB.out) | (with_reducible refine Kd.C_alloc ?_ _) | (with_reducible refine Kd.C_drewN ?_ _) | (with_reducible refine Kd.C_drew ?_)))
      (case side2 => exact HC1369.out)
      rintro e w' ⟨rfl, ⟨nd, rfl⟩⟩
      refine ⟨_, rfl, ?_⟩
      refine hK.out _ _ trivial (fun hHeld => ?_)
      clear hK K
      refine nmA 33 ?_
      refine one_ (i := 12) (N := some 42) (bs 14 8191) rfl rfl (Y1N HT_.out (by kernel_rfl)) (by decide) (fun K hK => ?_)
      refine goes_ Try.func119 (by kernel_rfl) rfl #[.int .u32 t_4, .slice A27 ((l0.take ((wrap64 ((ji10) + t_0)) : Int).toNat).drop ((ji10) : Int).toNat).length (c0 - (ji10).toNat)] (by rfl) rfl rfl (by (try simp only [List.map_toArray, List.map_cons, List.map_nil]); first | done | (rw [show ((l0.take ((wrap64 ((ji10) + t_0)) : Int).toNat).drop ((ji10) : Int).toNat).length = ((wrap64 ((ji10) + t_0)).toNat - (ji10).toNat) from (by rw [List.length_drop, List.length_take]; have h_ : ((wrap64 ((ji10) + t_0)) : Int) ≤ (l0.length : Int) := of_decide_eq_true (by first | (with_reducible assumption) | assumption); omega)] <;> rfl) | (simp only [hji10]; rfl) | rfl | (simp only [List.length_drop, List.length_take]; rfl)) ?_
      with_reducible refine (Yb.calls k t_4 _ _ ((l0.take ((wrap64 ((ji10) + t_0)) : Int).toNat).drop ((ji10) : Int).toNat) t_3 _ ?side1 ?side2 A14.out).mono ?_
      (case side1 => repeat (first | exact (Kd.C_below HR1371.out (hU HB.out)) | (with_reducible refine Kd.C_alloc ?_ _) | (with_reducible refine Kd.C_drewN ?_ _) | (with_reducible refine Kd.C_drew ?_)))
      (case side2 => exact HC1371.out)
      rintro e w' ⟨rfl, ⟨nd, rfl⟩⟩
      refine ⟨_, rfl, ?_⟩
      refine hK.out _ _ trivial (fun hHeld => ?_)
      clear hK K
      refine nmA 42 ?_
      refine puA 13 8 (bs 14 16383) ?_
      refine done_ (Y1G HT_.out (by kernel_rfl)) ?_
      try go_wp2
      (try (rw [Y2z w25]; generalize hq_ : World.drewN w25 _ = w25; have n0_ : Y0 (Below w.heap.size w w25) := ⟨by rw [← hq_]; exact (hU HB.out)⟩; clear HB hq_; have HB := n0_; clear n0_))
      replace HB := Y0.mk (YC HB.out)
      obtain ⟨i029, hi029, _, hsz29, _⟩ := info_parts info5
      obtain ⟨A29, hcut29, hA29, hC29⟩ := Y1I (P := Try.prog) (Value.int .u8) 0 60 5 .i64 .i64 Try.underlying60 hi029 hsz29 A0 c0 l0 t_1 (ji10) (of_decide_eq_true (by first | (with_reducible assumption) | assumption)) (by first | omega | exact of_decide_eq_true (by first | (with_reducible assumption) | assumption)) (of_decide_eq_true (by first | (with_reducible assumption) | assumption)) HC0.out
      have HR1376 := Y0.mk (Kd.C_of_reads (h1 := fun _ => rfl) (hA29 _ (Kd.reads_of_C HR0.out)))
      have HC1376 := Y0.mk hC29
      clear hA29 hC29 hi029 hsz29
      refine Y1w (n := 9) (S := fun w' => True) (ds := []) #[false, false, false, false, false, false, false, false, false] (by kernel_rfl) rfl rfl trivial (fun hHeld => ?_); refine Y1q Ym.tab11 Ym.bits11 (fun HT_ HW_ => ?_)
      (first | (generalize hW_ : World.drew (World.drewN w25 _) = w28 at hHeld ⊢; have n0_ : Y0 (Below w.heap.size w w28) := ⟨by rw [← hW_]; exact ⟨HB.out.os, HB.out.tape, HB.out.output, HB.out.size, HB.out.block⟩⟩; clear HB hW_; have HB := n0_; clear n0_) | generalize w25.drew = w28 at HB HR1376 hHeld ⊢)
      refine puA 0 43 (bs 9 1) ?_
      refine puA 2 45 (bs 9 5) ?_
      refine puA 3 46 (bs 9 13) ?_
      refine puA 4 47 (bs 9 29) ?_
      refine puA 5 48 (bs 9 61) ?_
      refine puA 6 49 (bs 9 125) ?_
      refine one_ (i := 1) (N := some 44) (bs 9 127) rfl rfl (Y1N HT_.out (by kernel_rfl)) (by decide) (fun K hK => ?_)
      refine goes_ Try.func122 (by kernel_rfl) rfl #[.int .u32 t_3] (by rfl) rfl rfl (by (try simp only [List.map_toArray, List.map_cons, List.map_nil]); first | done | rfl | (simp only [List.length_drop, List.length_take]; rfl)) ?_
      with_reducible refine (Y17.calls t_3 t_2 _ A15.out).mono ?_
      rintro e w30 ⟨v_0, rfl, ho0, hb⟩
      refine ⟨_, rfl, ?_⟩
      replace O_0 := Y0.mk (Kd.R_lower ho0 (Yi (hU HB.out)))
      replace HB := Y0.mk (Y4 (hU HB.out) hb)
      (try clear hb)
      (try clear hb2)
      (try clear hk)
      (try clear hi)
      (try clear ho0)
      obtain ⟨Ao31, co31, eo31⟩ := Kd.R_slice O_0.out
      (first | subst eo31 | (injection eo31 with f1_ f2_ f3_; have f4_ := f1_.symm; have f5_ := f3_.symm; clear f1_ f2_ f3_; subst f4_; subst f5_))
      refine hK.out _ _ trivial (fun hHeld => ?_)
      clear hK K
      refine nmA 44 ?_
      refine one_ (i := 7) (N := some 50) (bs 9 255) rfl rfl (Y1N HT_.out (by kernel_rfl)) (by decide) (fun K hK => ?_)
      refine goes_ Try.func121 (by kernel_rfl) rfl #[.slice Ao31 t_2.length co31, .slice A29 ((l0.take ((ji10) : Int).toNat).drop (t_1 : Int).toNat).length (c0 - t_1.toNat)] (by rfl) rfl rfl (by (try simp only [List.map_toArray, List.map_cons, List.map_nil]); first | done | (rw [show ((l0.take ((ji10) : Int).toNat).drop (t_1 : Int).toNat).length = ((ji10).toNat - t_1.toNat) from (by rw [List.length_drop, List.length_take]; have h_ : ((ji10) : Int) ≤ (l0.length : Int) := of_decide_eq_true (by first | (with_reducible assumption) | assumption); omega)] <;> rfl) | (simp only [hji10]; rfl) | rfl | (simp only [List.length_drop, List.length_take]; rfl)) ?_
      with_reducible refine (Y1c.calls _ _ t_2 _ _ ((l0.take ((ji10) : Int).toNat).drop (t_1 : Int).toNat) true _ ?side1 ?side2 ?side3 ?side4 A19.out).mono ?_
      (case side1 => repeat (first | exact (Kd.R_reads' O_0.out).2.2 | (with_reducible refine Kd.C_alloc ?_ _) | (with_reducible refine Kd.C_drewN ?_ _) | (with_reducible refine Kd.C_drew ?_)))
      (case side2 => exact (Kd.R_reads' O_0.out).2.1)
      (case side3 => repeat (first | exact (Kd.C_below HR1376.out HB.out) | (with_reducible refine Kd.C_alloc ?_ _) | (with_reducible refine Kd.C_drewN ?_ _) | (with_reducible refine Kd.C_drew ?_)))
      (case side4 => exact HC1376.out)
      rintro e w' ⟨rfl, ⟨nd, rfl⟩⟩
      refine ⟨_, rfl, ?_⟩
      refine hK.out _ _ trivial (fun hHeld => ?_)
      clear hK K
      refine nmA 50 ?_
      refine puA 8 51 (bs 9 511) ?_
      refine done_ (Y1G HT_.out (by kernel_rfl)) ?_
      obtain ⟨i032, hi032, _, hsz32, _⟩ := info_parts info5
      obtain ⟨A32, hcut32, hA32, hC32⟩ := Y1I (P := Try.prog) (Value.int .u8) 0 60 5 .i64 .i64 Try.underlying60 hi032 hsz32 A0 c0 l0 (ji10) (wrap64 ((ji10) + t_0)) (of_decide_eq_true (by first | (with_reducible assumption) | assumption)) (by first | omega | exact of_decide_eq_true (by first | (with_reducible assumption) | assumption)) (of_decide_eq_true (by first | (with_reducible assumption) | assumption)) HC0.out
      have HR1378 := Y0.mk (Kd.C_of_reads (h1 := fun _ => rfl) (hA32 _ (Kd.reads_of_C HR0.out)))
      have HC1378 := Y0.mk hC32
      clear hA32 hC32 hi032 hsz32
      try go_wp2_with (first | ((with_reducible refine Y1h (b := .append) (xs := #[.tmp 52, .tmp 60]) rfl ?_); at_builtin; refine Kd.R_append_rows (Kd.int .u8) (w0 := w) w.heap.size rfl (.tmp 52) (.tmp 60) 60 5 (.int .u8 0) 1 rfl Try.underlying60 info5 rfl (by decide) (by omega) (.slice none 0 0) ([] : List Int) ((l0.take ((wrap64 ((ji10) + t_0)) : Int).toNat).drop ((ji10) : Int).toNat) _ _ _ (fun k_ => some k_ ≠ (.slice Ao31 t_2.length co31 : Value).ownBlock) (fun _ => False) rfl rfl ?aO ?aR (fun _ _ h => h) (fun _ h => h.elim) ?aF ?aB ?aS ?aL ?_; (case aR => first | (rw [← show ((l0.take ((wrap64 ((ji10) + t_0)) : Int).toNat).drop ((ji10) : Int).toNat).length = ((wrap64 ((ji10) + t_0)).toNat - (ji10).toNat) from (by rw [List.length_drop, List.length_take]; have h_ : ((wrap64 ((ji10) + t_0)) : Int) ≤ (l0.length : Int) := of_decide_eq_true (by first | (with_reducible assumption) | assumption); omega)]; repeat (first | exact (Kd.C_below HR1378.out (hU HB.out)) | exact (Kd.C_below HR1371.out (hU HB.out)) | (with_reducible refine Kd.C_alloc ?_ _) | (with_reducible refine Kd.C_drewN ?_ _) | (with_reducible refine Kd.C_drew ?_))) | (repeat (first | exact (Kd.C_below HR1378.out (hU HB.out)) | exact (Kd.C_below HR1371.out (hU HB.out)) | (with_reducible refine Kd.C_alloc ?_ _) | (with_reducible refine Kd.C_drewN ?_ _) | (with_reducible refine Kd.C_drew ?_)))); (case aB => exact (hU HB.out)); (case aF => exact (fun k_ hk => Kd.fresh' (Kd.R_lt (Kd.rU O_0.out)) k_ hk)); (case aO => exact ((Kd.R_nil _ _ _ _ (fun k_ => some k_ ≠ (.slice Ao31 t_2.length co31 : Value).ownBlock)))); (case aS => exact (Yi (hU HB.out))); (case aL => have := LMc24.out; have hlx_ := (show ((l0.take ((wrap64 ((ji10) + t_0)) : Int).toNat).drop ((ji10) : Int).toNat).length = ((wrap64 ((ji10) + t_0)).toNat - (ji10).toNat) from (by rw [List.length_drop, List.length_take]; have h_ : ((wrap64 ((ji10) + t_0)) : Int) ≤ (l0.length : Int) := of_decide_eq_true (by first | (with_reducible assumption) | assumption); omega)); omega); intro v_1 w33 ho hb hg hat; rw [← Ny1379.out] at ho; have n0_ := Y0.mk (Kd.R_after (Kd.R_apart_nil (Kd.rU O_0.out)) hg hat); have n1_ := Y0.mk (hb); have n2_ := Y0.mk (ho); clear O_0; clear HB; have O_0 := n0_; have HB := n1_; have O_1 := n2_; clear n0_ n1_ n2_; clear ho hb hg hat))
      go_ret3
      exact ⟨_, by first | rfl | (simp [Y1f, Y1g] <;> rfl) | (simp only [← hji10]; first | rfl | (simp [Y1f, Y1g] <;> rfl)) | (simp [*, Y1f, Y1g] <;> rfl), by (with_reducible repeat (first | apply Kd.R_alloc | apply Kd.R_drewN | apply Kd.R_drew)); exact Kd.R_mono O_1.out (fun _ hk => trivial), hU HB.out⟩
     ·replace c20 := Bool.eq_false_iff.mpr c20
      subst c20
      have H1 : (some (([] : List Int), 0, 14)) = some (r1, r2, r3) := by rw [if_neg (show ¬ (false = true) by decide)] at H; exact H
      clear H
      have H := H1
      clear H1
      simp only [Option.some.injEq, Prod.mk.injEq] at H
      obtain ⟨rfl, rfl, rfl⟩ := H
      go_enter Try.func88, Try.ntmps88
      try go_wp2_with (first | ((with_reducible refine Y8 (f := 118) rfl ?_); refine goesA (some 12) Try.func118 #[.slice A0 l0.length c0] ?_; (with_reducible refine (Y7.calls k _ _ l0 t_0 t_1 t_5 _ ?side1 ?side2 A2.out).mono ?_); (case side1 => repeat (first | exact HR0.out | (with_reducible refine Kd.C_alloc ?_ _) | (with_reducible refine Kd.C_drewN ?_ _) | (with_reducible refine Kd.C_drew ?_))); (case side2 => exact HC0.out); rintro e w' ⟨rfl, ⟨nd, rfl⟩⟩; refine ⟨_, rfl, ?_⟩))
      replace HB := Y0.mk (YC HB.out)
      obtain ⟨i035, hi035, _, hsz35, _⟩ := info_parts info5
      obtain ⟨hcut35, hA35, hC35⟩ := Y20 (P := Try.prog) (Value.int .u8) 0 60 5 .i64 Try.underlying60 hi035 hsz35 A0 c0 l0 t_1 (of_decide_eq_true (by first | (with_reducible assumption) | assumption)) (of_decide_eq_true (by first | (with_reducible assumption) | assumption)) HC0.out
      have HR1369 := Y0.mk (Kd.C_of_reads (h1 := fun _ => rfl) (hA35 _ (Kd.reads_of_C HR0.out)))
      have HC1369 := Y0.mk hC35
      clear hA35 hC35 hi035 hsz35
      obtain ⟨i036, hi036, _, hsz36, _⟩ := info_parts info5
      obtain ⟨A36, hcut36, hA36, hC36⟩ := Y1I (P := Try.prog) (Value.int .u8) 0 60 5 .i64 .i64 Try.underlying60 hi036 hsz36 A0 c0 l0 (ji10) (wrap64 ((ji10) + t_0)) (of_decide_eq_true (by first | (with_reducible assumption) | assumption)) (by first | omega | exact of_decide_eq_true (by first | (with_reducible assumption) | assumption)) (of_decide_eq_true (by first | (with_reducible assumption) | assumption)) HC0.out
      have HR1371 := Y0.mk (Kd.C_of_reads (h1 := fun _ => rfl) (hA36 _ (Kd.reads_of_C HR0.out)))
      have HC1371 := Y0.mk hC36
      clear hA36 hC36 hi036 hsz36
      refine Y1w (n := 14) (S := fun w' => True) (ds := []) #[false, false, false, false, false, false, false, false, false, false, false, false, false, false] (by kernel_rfl) rfl rfl trivial (fun hHeld => ?_); refine Y1q Ym.tab10 Ym.bits10 (fun HT_ HW_ => ?_)
      (first | (generalize hW_ : World.drew (World.drewN w _) = w34 at hHeld ⊢; have n0_ : Y0 (Below w.heap.size w w34) := ⟨by rw [← hW_]; exact ⟨HB.out.os, HB.out.tape, HB.out.output, HB.out.size, HB.out.block⟩⟩; clear HB hW_; have HB := n0_; clear n0_) | generalize w.drew = w34 at HB HR1369 HR1371 hHeld ⊢)
      refine puA 0 30 (bs 14 1) ?_
      refine puA 1 31 (bs 14 3) ?_
      refine puA 2 32 (bs 14 7) ?_
      refine puA 4 34 (bs 14 23) ?_
      refine puA 5 35 (bs 14 55) ?_
      refine puA 6 36 (bs 14 119) ?_
      refine puA 7 37 (bs 14 247) ?_
      refine puA 8 38 (bs 14 503) ?_
      refine puA 9 39 (bs 14 1015) ?_
      refine puA 10 40 (bs 14 2039) ?_
      refine puA 11 41 (bs 14 4087) ?_
      refine one_ (i := 3) (N := some 33) (bs 14 4095) rfl rfl (Y1N HT_.out (by kernel_rfl)) (by decide) (fun K hK => ?_)
      refine goes_ Try.func120 (by kernel_rfl) rfl #[.slice A0 (l0.take (t_1 : Int).toNat).length c0] (by rfl) rfl rfl (by (try simp only [List.map_toArray, List.map_cons, List.map_nil]); first | done | (rw [show (l0.take (t_1 : Int).toNat).length = t_1.toNat from (by rw [List.length_take]; have h_ : (t_1 : Int) ≤ (l0.length : Int) := of_decide_eq_true (by first | (with_reducible assumption) | assumption); omega)] <;> rfl) | rfl | (simp only [List.length_drop, List.length_take]; rfl)) ?_
      with_reducible refine (YT.calls k _ _ (l0.take (t_1 : Int).toNat) t_4 _ ?side1 ?side2 A9.out).mono ?_
      (case side1 => repeat (first | exact (Kd.C_below HR1369.out HB.out) | (with_reducible refine Kd.C_alloc ?_ _) | (with_reducible refine Kd.C_drewN ?_ _) | (with_reducible refine Kd.C_drew ?_)))
      (case side2 => exact HC1369.out)
      rintro e w' ⟨rfl, ⟨nd, rfl⟩⟩
      refine ⟨_, rfl, ?_⟩
      refine hK.out _ _ trivial (fun hHeld => ?_)
      clear hK K
      refine nmA 33 ?_
      refine one_ (i := 12) (N := some 42) (bs 14 8191) rfl rfl (Y1N HT_.out (by kernel_rfl)) (by decide) (fun K hK => ?_)
      refine goes_ Try.func119 (by kernel_rfl) rfl #[.int .u32 t_4, .slice A36 ((l0.take ((wrap64 ((ji10) + t_0)) : Int).toNat).drop ((ji10) : Int).toNat).length (c0 - (ji10).toNat)] (by rfl) rfl rfl (by (try simp only [List.map_toArray, List.map_cons, List.map_nil]); first | done | (rw [show ((l0.take ((wrap64 ((ji10) + t_0)) : Int).toNat).drop ((ji10) : Int).toNat).length = ((wrap64 ((ji10) + t_0)).toNat - (ji10).toNat) from (by rw [List.length_drop, List.length_take]; have h_ : ((wrap64 ((ji10) + t_0)) : Int) ≤ (l0.length : Int) := of_decide_eq_true (by first | (with_reducible assumption) | assumption); omega)] <;> rfl) | (simp only [hji10]; rfl) | rfl | (simp only [List.length_drop, List.length_take]; rfl)) ?_
      with_reducible refine (Yb.calls k t_4 _ _ ((l0.take ((wrap64 ((ji10) + t_0)) : Int).toNat).drop ((ji10) : Int).toNat) t_3 _ ?side1 ?side2 A14.out).mono ?_
      (case side1 => repeat (first | exact (Kd.C_below HR1371.out (hU HB.out)) | (with_reducible refine Kd.C_alloc ?_ _) | (with_reducible refine Kd.C_drewN ?_ _) | (with_reducible refine Kd.C_drew ?_)))
      (case side2 => exact HC1371.out)
      rintro e w' ⟨rfl, ⟨nd, rfl⟩⟩
      refine ⟨_, rfl, ?_⟩
      refine hK.out _ _ trivial (fun hHeld => ?_)
      clear hK K
      refine nmA 42 ?_
      refine puA 13 8 (bs 14 16383) ?_
      refine done_ (Y1G HT_.out (by kernel_rfl)) ?_
      try go_wp2
      (try (rw [Y2z w34]; generalize hq_ : World.drewN w34 _ = w34; have n0_ : Y0 (Below w.heap.size w w34) := ⟨by rw [← hq_]; exact (hU HB.out)⟩; clear HB hq_; have HB := n0_; clear n0_))
      replace HB := Y0.mk (YC HB.out)
      obtain ⟨i038, hi038, _, hsz38, _⟩ := info_parts info5
      obtain ⟨A38, hcut38, hA38, hC38⟩ := Y1I (P := Try.prog) (Value.int .u8) 0 60 5 .i64 .i64 Try.underlying60 hi038 hsz38 A0 c0 l0 t_1 (ji10) (of_decide_eq_true (by first | (with_reducible assumption) | assumption)) (by first | omega | exact of_decide_eq_true (by first | (with_reducible assumption) | assumption)) (of_decide_eq_true (by first | (with_reducible assumption) | assumption)) HC0.out
      have HR1376 := Y0.mk (Kd.C_of_reads (h1 := fun _ => rfl) (hA38 _ (Kd.reads_of_C HR0.out)))
      have HC1376 := Y0.mk hC38
      clear hA38 hC38 hi038 hsz38
      refine Y1w (n := 9) (S := fun w' => True) (ds := []) #[false, false, false, false, false, false, false, false, false] (by kernel_rfl) rfl rfl trivial (fun hHeld => ?_); refine Y1q Ym.tab11 Ym.bits11 (fun HT_ HW_ => ?_)
      (first | (generalize hW_ : World.drew (World.drewN w34 _) = w37 at hHeld ⊢; have n0_ : Y0 (Below w.heap.size w w37) := ⟨by rw [← hW_]; exact ⟨HB.out.os, HB.out.tape, HB.out.output, HB.out.size, HB.out.block⟩⟩; clear HB hW_; have HB := n0_; clear n0_) | generalize w34.drew = w37 at HB HR1376 hHeld ⊢)
      refine puA 0 43 (bs 9 1) ?_
      refine puA 2 45 (bs 9 5) ?_
      refine puA 3 46 (bs 9 13) ?_
      refine puA 4 47 (bs 9 29) ?_
      refine puA 5 48 (bs 9 61) ?_
      refine puA 6 49 (bs 9 125) ?_
      refine one_ (i := 1) (N := some 44) (bs 9 127) rfl rfl (Y1N HT_.out (by kernel_rfl)) (by decide) (fun K hK => ?_)
      refine goes_ Try.func122 (by kernel_rfl) rfl #[.int .u32 t_3] (by rfl) rfl rfl (by (try simp only [List.map_toArray, List.map_cons, List.map_nil]); first | done | rfl | (simp only [List.length_drop, List.length_take]; rfl)) ?_
      with_reducible refine (Y17.calls t_3 t_2 _ A15.out).mono ?_
      rintro e w39 ⟨v_0, rfl, ho0, hb⟩
      refine ⟨_, rfl, ?_⟩
      replace O_0 := Y0.mk (Kd.R_lower ho0 (Yi (hU HB.out)))
      replace HB := Y0.mk (Y4 (hU HB.out) hb)
      (try clear hb)
      (try clear hb2)
      (try clear hk)
      (try clear hi)
      (try clear ho0)
      obtain ⟨Ao40, co40, eo40⟩ := Kd.R_slice O_0.out
      (first | subst eo40 | (injection eo40 with f1_ f2_ f3_; have f4_ := f1_.symm; have f5_ := f3_.symm; clear f1_ f2_ f3_; subst f4_; subst f5_))
      refine hK.out _ _ trivial (fun hHeld => ?_)
      clear hK K
      refine nmA 44 ?_
      refine one_ (i := 7) (N := some 50) (bs 9 255) rfl rfl (Y1N HT_.out (by kernel_rfl)) (by decide) (fun K hK => ?_)
      refine goes_ Try.func121 (by kernel_rfl) rfl #[.slice Ao40 t_2.length co40, .slice A38 ((l0.take ((ji10) : Int).toNat).drop (t_1 : Int).toNat).length (c0 - t_1.toNat)] (by rfl) rfl rfl (by (try simp only [List.map_toArray, List.map_cons, List.map_nil]); first | done | (rw [show ((l0.take ((ji10) : Int).toNat).drop (t_1 : Int).toNat).length = ((ji10).toNat - t_1.toNat) from (by rw [List.length_drop, List.length_take]; have h_ : ((ji10) : Int) ≤ (l0.length : Int) := of_decide_eq_true (by first | (with_reducible assumption) | assumption); omega)] <;> rfl) | (simp only [hji10]; rfl) | rfl | (simp only [List.length_drop, List.length_take]; rfl)) ?_
      with_reducible refine (Y1c.calls _ _ t_2 _ _ ((l0.take ((ji10) : Int).toNat).drop (t_1 : Int).toNat) false _ ?side1 ?side2 ?side3 ?side4 A19.out).mono ?_
      (case side1 => repeat (first | exact (Kd.R_reads' O_0.out).2.2 | (with_reducible refine Kd.C_alloc ?_ _) | (with_reducible refine Kd.C_drewN ?_ _) | (with_reducible refine Kd.C_drew ?_)))
      (case side2 => exact (Kd.R_reads' O_0.out).2.1)
      (case side3 => repeat (first | exact (Kd.C_below HR1376.out HB.out) | (with_reducible refine Kd.C_alloc ?_ _) | (with_reducible refine Kd.C_drewN ?_ _) | (with_reducible refine Kd.C_drew ?_)))
      (case side4 => exact HC1376.out)
      rintro e w' ⟨rfl, ⟨nd, rfl⟩⟩
      refine ⟨_, rfl, ?_⟩
      refine hK.out _ _ trivial (fun hHeld => ?_)
      clear hK K
      refine nmA 50 ?_
      refine puA 8 51 (bs 9 511) ?_
      refine done_ (Y1G HT_.out (by kernel_rfl)) ?_
      try go_wp2
      go_ret3
      exact ⟨_, by first | rfl | (simp [Y1f, Y1g] <;> rfl) | (simp only [← hji10]; first | rfl | (simp [Y1f, Y1g] <;> rfl)) | (simp [*, Y1f, Y1g] <;> rfl), by first | exact Kd.R_nil _ _ _ _ _ | exact Kd.N_nil _ _ _ _ _ | exact Kd.V_nil _ _ _ _ _ | exact Kd.Q_nil _ _ _ _ _ | exact Kd.S_nil _ _ _ _ _, hU HB.out⟩
 ·rw [if_neg c3] at H
  have c3b0 := bqF c3
  have c3b1 := bnT c3
  simp only [Option.some.injEq, Prod.mk.injEq] at H
  obtain ⟨rfl, rfl, rfl⟩ := H
  go_enter Try.func88, Try.ntmps88
  go_wp2_with (first | ((with_reducible refine Y8 (f := 118) rfl ?_); refine goesA (some 12) Try.func118 #[.slice A0 l0.length c0] ?_; (with_reducible refine (Y7.calls k _ _ l0 t_0 t_1 t_5 _ ?side1 ?side2 A2.out).mono ?_); (case side1 => repeat (first | exact HR0.out | (with_reducible refine Kd.C_alloc ?_ _) | (with_reducible refine Kd.C_drewN ?_ _) | (with_reducible refine Kd.C_drew ?_))); (case side2 => exact HC0.out); rintro e w' ⟨rfl, ⟨nd, rfl⟩⟩; refine ⟨_, rfl, ?_⟩))
  go_ret3
  exact ⟨_, reT, by first | exact Kd.R_nil _ _ _ _ _ | exact Kd.N_nil _ _ _ _ _ | exact Kd.V_nil _ _ _ _ _ | exact Kd.Q_nil _ _ _ _ _ | exact Kd.S_nil _ _ _ _ _, hU HB.out⟩
def Yn.l0 : Nat → List Int → Int → List Int → Option (List Int × List Int × Int)
 | 0, _, _, _ => none
 | k + 1, x0, x1, x7 => if (x7.length : Int) < x1 then ((Y7.f k x0).bind fun b_0 => (if b_0.2.2 = 0 then (if x7.length < 17592186044416 then (if 0 ≤ b_0.2.1 then (if b_0.2.1 ≤ (x0.length : Int) then (Yn.l0 k (x0.drop (b_0.2.1 : Int).toNat) x1 (x7 ++ [b_0.1])) else (none)) else (none)) else (none)) else (some (([] : List Int), ([] : List Int), b_0.2.2)))) else (some (x7, x0, 0))
def Yn.f (k : Nat) (l0 : List Int) (a1 : Int) : Option (List Int × List Int × Int) := Yn.l0 k l0 a1 (([] : List Int))
theorem Yn.mono_l : ∀ k, (∀ y0 y1 y2, LeO (Yn.l0 k y0 y1 y2) (Yn.l0 (k + 1) y0 y1 y2))
 | 0 => fun _ _ _ r h => by simp [Yn.l0] at h
 | k + 1 => by
  have ih0 := Yn.mono_l k
  ·intro y0 y1 y2
   unfold Yn.l0
   repeat' first
   | (with_reducible exact ih0 _ _ _)
   | (with_reducible exact Y7.mono _ _)
   | (with_reducible exact LeO.refl _)
   | (with_reducible exact LeO.none _)
   | (with_reducible refine LeO.ite ?_ ?_)
   | (with_reducible refine LeO.bind ?_ (fun _ => ?_))
theorem Yn.mono : ∀ a0 a1 k, LeO (Yn.f k a0 a1) (Yn.f (k + 1) a0 a1) := by
 intro a0 a1 k
 have ih0 := Yn.mono_l k
 unfold Yn.f
 repeat' first
   | (with_reducible exact ih0 _ _ _)
   | (with_reducible exact Y7.mono _ _)
   | (with_reducible exact LeO.refl _)
   | (with_reducible exact LeO.none _)
   | (with_reducible refine LeO.ite ?_ ?_)
   | (with_reducible refine LeO.bind ?_ (fun _ => ?_))
set_option maxHeartbeats 8000000 in
set_option maxRecDepth 100000 in
theorem Yn.calls (k : Nat) (P0_ : Nat → Prop) (A0 : Option Addr) (c0 : Nat) (l0 : List Int) (a1 : Int) (r1 : List Int) (r2 : List Int) (r3 : Int) (w : World) (hs0 : Kd.V (Kd.int .u8) 5 w w.heap.size (fun k_ => P0_ k_) (.slice A0 l0.length c0) l0) (h : Yn.f k l0 a1 = some (r1, r2, r3)) :
  Calls Try.prog 123 #[.slice A0 l0.length c0, .int .i64 a1] w fun e w' => ∃ v0_ v1_ : Value, e = .returned (.tuple #[v0_, v1_, .int .i64 r3]) ∧ Kd.R (Kd.int .i64) 3 w' w.heap.size (fun k_ => (w.heap.size ≤ k_)) v0_ r1 ∧ Kd.V (Kd.int .u8) 5 w' w.heap.size (fun k_ => (P0_ k_ ∨ w.heap.size ≤ k_) ∧ some k_ ≠ (v0_ : Value).ownBlock) v1_ r2 ∧ Below w.heap.size w w' := by
 have HO0 := Y0.mk (show Kd.V (Kd.int .u8) 5 w w.heap.size (fun k_ => (P0_ k_ ∨ w.heap.size ≤ k_)) (.slice A0 l0.length c0) l0 from Kd.V_mono hs0 (fun k_ hk => .inl hk))
 have HB := Y0.mk (Below.refl w.heap.size w)
 have H : (Yn.l0 k l0 a1 (([] : List Int))) = some (r1, r2, r3) := h
 clear h
 obtain ⟨y1382, hy1382⟩ : ∃ y_ : List Int, y_ = (([] : List Int)) := ⟨_, rfl⟩
 replace H : (Yn.l0 k l0 a1 y1382) = some (r1, r2, r3) := by first | (rw [hy1382]; with_reducible exact H) | (have H2_ := (Option.bind_some _ _).symm.trans H; rw [hy1382]; with_reducible exact H2_) | (have H2_ := (Option.bind_some _ _).symm.trans H; with_reducible exact H2_) | with_reducible exact H | (rw [hy1382]; exact H) | exact H
 have Ny1382 := Y0.mk hy1382
 clear hy1382
 have H' := Y0.mk H
 clear H
 go_enter Try.func123, Try.ntmps123
 go_wp2_with (first | ((with_reducible refine Yl (N := 11) rfl ?_); refine Kd.R_lit (Kd.int .i64) _ 3 ?hg (N := 11) ?hd (xs := ([] : List Int)) (inner := []) (ok := fun _ => True) (okp := fun _ => True) ?hr ?hp (fun _ hk => hk) trivial (Below.refl _ _) (Nat.le_refl _) (by simp) ?_; (case hd => rfl); (case hg => rfl); (case hr => first | (go_simp; done) | (go_simp; rfl)); (case hp => exact (Reps.none _ _)); intro v_1 w3 ho4 hb hg_ hnew_; clear hg_ hnew_; (first | rw [← Ny1382.out] at ho4 | (simp only [Int.reduceToNat] at ho4; rw [← Ny1382.out] at ho4)); have n0_ := Y0.mk (Kd.V_elder' (Kd.vU HO0.out) (Kd.R_base ho4) hb); have n1_ := Y0.mk (Kd.R_lower (Kd.R_newM (M := fun k_ => (w.heap.size ≤ k_)) ho4 (Yi (hU HB.out)) (fun k_ h_ => h_)) (Yi (hU HB.out))); have n2_ := Y0.mk (Y4 (hU HB.out) hb); clear HO0; clear HB; have HO0 := n0_; have O_2 := n1_; have HB := n2_; clear n0_ n1_ n2_; clear hb ho4))
 go_loopg [0, 7] k (fun kq v0 v7 w' => ∃ (x0_1 : List Int) (x7_1 : List Int), Y0 (Yn.l0 kq x0_1 a1 x7_1 = some (r1, r2, r3)) ∧ Y0 (kq ≤ k) ∧ Y0 (Kd.V (Kd.int .u8) 5 w' w.heap.size (fun k_ => (P0_ k_ ∨ w.heap.size ≤ k_) ∧ some k_ ≠ (v7 : Value).ownBlock) v0 x0_1) ∧ Y0 (Kd.R (Kd.int .i64) 3 w' w.heap.size (fun k_ => (w.heap.size ≤ k_)) v7 x7_1) ∧ Y0 (Below w.heap.size w w'))
 case atStart => exact ⟨(l0), (y1382), H', ⟨Nat.le_refl _⟩, ⟨by (with_reducible repeat (first | apply Kd.V_alloc | apply Kd.V_drewN | apply Kd.V_drew)); exact HO0.out⟩, ⟨by (with_reducible repeat (first | apply Kd.R_alloc | apply Kd.R_drewN | apply Kd.R_drew)); exact Kd.R_mono O_2.out (fun _ hk => hk.1)⟩, ⟨hU HB.out⟩⟩
 case round =>
  clear H'
  try clear c1
  try clear p2
  obtain ⟨x0_1, x7_1, HA, HK1, HO_0, HO_7, HB⟩ := hrel
  cases gk with
  | zero => exact absurd HA.out (by simp [Yn.l0])
  | succ k1 =>
   have H := HA.out
   clear HA
   simp only [Yn.l0] at H
   by_cases c5 : (x7_1.length : Int) < a1
   ·rw [if_pos c5] at H
    have c5b0 := decide_eq_true c5
    clear c5
    obtain ⟨⟨t_1, t_0, t_2⟩, A60, H⟩ := bS H
    try dsimp only at H
    have A6 := Y0.mk A60
    clear A60
    by_cases c7 : t_2 = 0
    ·rw [if_pos c7] at H
     have c7b0 := bqT c7
     have c7b1 := bnF c7
     clear c7
     obtain ⟨c8, H⟩ := iS H
     have LMc8 := Y0.mk c8
     clear c8
     obtain ⟨y1388, hy1388⟩ : ∃ y_ : List Int, y_ = (x7_1 ++ [t_1]) := ⟨_, rfl⟩
     replace H : (if 0 ≤ t_0 then (if t_0 ≤ (x0_1.length : Int) then (Yn.l0 k1 (x0_1.drop (t_0 : Int).toNat) a1 y1388) else (none)) else (none)) = some (r1, r2, r3) := by first | (rw [hy1388]; with_reducible exact H) | (have H2_ := (Option.bind_some _ _).symm.trans H; rw [hy1388]; with_reducible exact H2_) | (have H2_ := (Option.bind_some _ _).symm.trans H; with_reducible exact H2_) | with_reducible exact H | (rw [hy1388]; exact H) | exact H
     have Ny1388 := Y0.mk hy1388
     clear hy1388
     obtain ⟨c9, H⟩ := iS H
     have c9b0 := eq_true c9
     have c9b1 := decide_eq_true c9
     clear c9
     obtain ⟨c10, H⟩ := iS H
     have c10b0 := eq_true c10
     have c10b1 := decide_eq_true c10
     clear c10
     obtain ⟨y1391, hy1391⟩ : ∃ y_ : List Int, y_ = (x0_1.drop (t_0 : Int).toNat) := ⟨_, rfl⟩
     replace H : (Yn.l0 k1 y1391 a1 y1388) = some (r1, r2, r3) := by first | (rw [hy1391]; with_reducible exact H) | (have H2_ := (Option.bind_some _ _).symm.trans H; rw [hy1391]; with_reducible exact H2_) | (have H2_ := (Option.bind_some _ _).symm.trans H; with_reducible exact H2_) | with_reducible exact H | (rw [hy1391]; exact H) | exact H
     have Ny1391 := Y0.mk hy1391
     clear hy1391
     have H' := Y0.mk H
     clear H
     obtain ⟨Ao11, co11, eo11⟩ := Kd.R_slice HO_7.out
     subst eo11
     obtain ⟨Ao12, co12, eo12⟩ := Kd.V_slice HO_0.out
     subst eo12
     go_wp2_with (first | ((with_reducible refine Y8 (f := 118) rfl ?_); refine goesA (some 18) Try.func118 #[.slice Ao12 x0_1.length co12] ?_; (with_reducible refine (Y7.calls k1 _ _ x0_1 t_1 t_0 t_2 _ ?side1 ?side2 A6.out).mono ?_); (case side1 => repeat (first | exact (Kd.V_reads' HO_0.out).2.2 | (with_reducible refine Kd.C_alloc ?_ _) | (with_reducible refine Kd.C_drewN ?_ _) | (with_reducible refine Kd.C_drew ?_))); (case side2 => exact (Kd.V_reads' HO_0.out).2.1); rintro e w' ⟨rfl, ⟨nd, rfl⟩⟩; refine ⟨_, rfl, ?_⟩) | ((with_reducible refine Y1h (b := .append) (xs := #[.tmp 25, .tmp 27]) rfl ?_); at_builtin; refine Kd.R_append (Kd.int .i64) (w0 := w) w.heap.size rfl (.tmp 25) (.tmp 27) 48 3 (.int .i64 0) 8 rfl Try.underlying48 info3 rfl (by decide) (by omega) (.slice Ao11 x7_1.length co11) x7_1 t_1 [.int .i64 t_1] (fun k_ => (w.heap.size ≤ k_)) (fun _ => False) rfl rfl ?aP (fun _ hk => hk.elim) ?aF ?aO ?aB ?aS ?aL ?_; (case aP => exact rfl); (case aB => exact (hU HB.out)); (case aF => exact (fun k_ hk => (Nat.le_trans (Yi (hU HB.out)) hk))); (case aO => exact (Kd.rU HO_7.out)); (case aS => exact (Yi (hU HB.out))); (case aL => have := LMc8.out; omega); intro v_0 w13 ho hb hg hat; rw [← Ny1388.out] at ho; have n0_ := Y0.mk (Kd.V_afterv (ok := (fun k_ => (P0_ k_ ∨ w.heap.size ≤ k_))) (Kd.vU HO_0.out) hg hat); have n1_ := Y0.mk (hb); have n2_ := Y0.mk (ho); clear HO_0; clear HB; clear HO_7; have HO_0 := n0_; have HB := n1_; have O_1 := n2_; clear n0_ n1_ n2_; clear ho hb hg hat; have q14 : (t_0 : Int) ≤ ((x0_1.length : Int) : Int) := of_decide_eq_true (by first | (with_reducible assumption) | assumption); obtain ⟨i014, hi014, _, hsz14, _⟩ := info_parts info5; have hroom14 : x0_1.length ≤ co12 := (Kd.V_reads' HO_0.out).2.1; have hC14 : Kd.F (Kd.int .u8) _ _ Ao12 x0_1.length x0_1 := (Kd.V_at (base := w.heap.size) HO_0.out).2.2; have q014 : (0 : Int) ≤ (t_0 : Int) := of_decide_eq_true (by first | (with_reducible assumption) | assumption); have hcut14 := Y3d (P := Try.prog) 60 5 .i64 Try.underlying60 hi014 1 hsz14 Ao12 x0_1.length co12 t_0 q014 q14; have hr14 := Kd.F_cut (m := (t_0 : Int).toNat) (c := co12) hC14 (by omega) hroom14; obtain ⟨A14, hA14⟩ : ∃ A1, A1 = (if co12 = (t_0 : Int).toNat then Ao12 else (Ao12 : Option Addr).map (·.add ((t_0 : Int).toNat * 1))) := ⟨_, rfl⟩; obtain ⟨c14, hc14⟩ : ∃ c1, c1 = co12 - (t_0 : Int).toNat := ⟨_, rfl⟩; have hy14 : y1391.length = x0_1.length - (t_0 : Int).toNat := (by rw [Ny1391.out, List.length_drop] <;> omega); rw [show (x0_1).drop (t_0 : Int).toNat = y1391 from Ny1391.out.symm] at hr14; replace hr14 : Kd.F (Kd.int .u8) _ _ A14 y1391.length y1391 := (by rw [hA14]; exact hr14); rw [← hy14, ← hA14, ← hc14] at hcut14; have O_0 := Y0.mk (show Kd.V (Kd.int .u8) 5 _ w.heap.size _ (.slice A14 y1391.length c14) y1391 from Kd.V_mk (by rw [hy14, hc14]; exact Nat.sub_le_sub_right hroom14 _) hr14); have HC1395 := Y0.mk (show y1391.length ≤ c14 from by rw [hy14, hc14]; exact Nat.sub_le_sub_right hroom14 _); clear hr14 hC14 hroom14 hi014 hsz14 hc14; have KY14 := Y0.mk hy14; have KA14 := Y0.mk hA14; clear hy14 hA14; replace q14 := eq_true q14))
     go_roundg k1
     case measure => have := HK1.out; omega
     case rel => exact ⟨(y1391), (y1388), H', ⟨by have := HK1.out; omega⟩, ⟨by (with_reducible repeat (first | apply Kd.V_alloc | apply Kd.V_drewN | apply Kd.V_drew)); exact O_0.out⟩, ⟨by (with_reducible repeat (first | apply Kd.R_alloc | apply Kd.R_drewN | apply Kd.R_drew)); exact O_1.out⟩, ⟨hU HB.out⟩⟩
    ·rw [if_neg c7] at H
     have c7b0 := bqF c7
     have c7b1 := bnT c7
     simp only [Option.some.injEq, Prod.mk.injEq] at H
     obtain ⟨rfl, rfl, rfl⟩ := H
     obtain ⟨Ao15, co15, eo15⟩ := Kd.R_slice HO_7.out
     subst eo15
     obtain ⟨Ao16, co16, eo16⟩ := Kd.V_slice HO_0.out
     subst eo16
     go_wp2_with (first | ((with_reducible refine Y8 (f := 118) rfl ?_); refine goesA (some 18) Try.func118 #[.slice Ao16 x0_1.length co16] ?_; (with_reducible refine (Y7.calls k1 _ _ x0_1 t_1 t_0 t_2 _ ?side1 ?side2 A6.out).mono ?_); (case side1 => repeat (first | exact (Kd.V_reads' HO_0.out).2.2 | (with_reducible refine Kd.C_alloc ?_ _) | (with_reducible refine Kd.C_drewN ?_ _) | (with_reducible refine Kd.C_drew ?_))); (case side2 => exact (Kd.V_reads' HO_0.out).2.1); rintro e w' ⟨rfl, ⟨nd, rfl⟩⟩; refine ⟨_, rfl, ?_⟩))
     go_ret3
     exact ⟨_, _, reT, by first | exact Kd.R_nil _ _ _ _ _ | exact Kd.N_nil _ _ _ _ _ | exact Kd.V_nil _ _ _ _ _ | exact Kd.Q_nil _ _ _ _ _ | exact Kd.S_nil _ _ _ _ _, (by first | exact Kd.V_nil _ _ _ _ _ | exact Kd.V_mono ((by first | exact Kd.V_nil _ _ _ _ _ | exact Kd.R_V (by first | exact Kd.R_nil _ _ _ _ _ | exact Kd.N_nil _ _ _ _ _ | exact Kd.V_nil _ _ _ _ _ | exact Kd.Q_nil _ _ _ _ _ | exact Kd.S_nil _ _ _ _ _))) (fun k_ hk => by first | exact ⟨(.inr (hk.1)), hk.2⟩ | exact (.inr (hk)))), hU HB.out⟩
   ·rw [if_neg c5] at H
    have c5b0 := decide_eq_false c5
    clear c5
    simp only [Option.some.injEq, Prod.mk.injEq] at H
    obtain ⟨rfl, rfl, rfl⟩ := H
    obtain ⟨Ao17, co17, eo17⟩ := Kd.R_slice HO_7.out
    subst eo17
    go_wp2
    go_ret3
    exact ⟨_, _, reT, by (with_reducible repeat (first | apply Kd.R_alloc | apply Kd.R_drewN | apply Kd.R_drew)); exact HO_7.out, by (with_reducible repeat (first | apply Kd.V_alloc | apply Kd.V_drewN | apply Kd.V_drew)); exact HO_0.out, hU HB.out⟩
end Go.Proofs.Yteopkkoblbmggaa.P
end

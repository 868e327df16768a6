/- Texts of this claim in one: VP36; no condition. -/
import Derived.Test.YteopkkoblbmggaaCAC
import Derived.Test.YteopkkoblbmggaaCAE
import Derived.Test.YteopkkoblbmggaaCAP
section
namespace Go.Proofs.Yteopkkoblbmggaa.P
open Go.RowKit Go.Proofs.YteopkkoblbmggaaW.PrintWords Go.Proofs.YteopkkoblbmggaaW.PrintLast Go.Proofs.YteopkkoblbmggaaW.PrintMore
attribute [local go_sem] YU YW Y14 Y15 YJ YK YV YX
set_option linter.unusedVariables false
set_option linter.unusedSimpArgs false
attribute [local go_sem high] eqA26
mutual
def Ya.l0 : Nat → List (S30) → Int → List (S26) → Int → Option ((List (S26)))
 | 0, _, _, _, _ => none
 | k + 1, x0, x1, x5, x6 => if x6 < (x0.length : Int) then (if 0 ≤ x6 then (if ((Y7 x0 x6).f1) = x1 then (Ya.l1 k x0 x1 x5 x6 0) else (Ya.l0 k x0 x1 x5 (wrap64 (x6 + 1)))) else (none)) else (some x5)
def Ya.l1 : Nat → List (S30) → Int → List (S26) → Int → Int → Option ((List (S26)))
 | 0, _, _, _, _, _ => none
 | k + 1, x0, x1, x5, x6, x7 => if x7 < (x5.length : Int) then (if 0 ≤ x7 then (if 0 ≤ x6 then (if x6 < (x0.length : Int) then ((YA.f ((Yx x5 x7).f0) ((Yx x5 x7).f1) ((Y7 x0 x6).f2.f0) ((Y7 x0 x6).f2.f1)).bind fun t_0 => (if t_0 = true then (Ya.l1 k x0 x1 x5 x6 (wrap64 (x7 + 1))) else (if (((Yx x5 x7).f0) == ((Y7 x0 x6).f2.f0) && (((Yx x5 x7).f1) == ((Y7 x0 x6).f2.f1))) = true then (Ya.l0 k x0 x1 x5 (wrap64 (x6 + 1))) else (if x7 ≤ (x5.length : Int) then ((some (x5.take (x7 : Int).toNat : List (S26))).bind fun y572 => (if ([] : List (S26)).length + y572.length < 8796093022208 then ((some (([] : List (S26)) ++ y572 : List (S26))).bind fun y576 => (if y576.length < 8796093022208 then ((some (y576 ++ [(⟨(Y7 x0 x6).f2.f0, (Y7 x0 x6).f2.f1⟩ : S26)] : List (S26))).bind fun y580 => ((some (x5.drop (x7 : Int).toNat : List (S26))).bind fun y583 => (if y580.length + y583.length < 8796093022208 then (Ya.l0 k x0 x1 (y580 ++ y583) (wrap64 (x6 + 1))) else (none)))) else (none))) else (none))) else (none))))) else (none)) else (none)) else (none)) else (if 0 ≤ x7 then (if x7 ≤ (x5.length : Int) then ((some (x5.take (x7 : Int).toNat : List (S26))).bind fun y590 => (if ([] : List (S26)).length + y590.length < 8796093022208 then ((some (([] : List (S26)) ++ y590 : List (S26))).bind fun y594 => (if 0 ≤ x6 then (if x6 < (x0.length : Int) then (if y594.length < 8796093022208 then ((some (y594 ++ [(⟨(Y7 x0 x6).f2.f0, (Y7 x0 x6).f2.f1⟩ : S26)] : List (S26))).bind fun y598 => ((some (x5.drop (x7 : Int).toNat : List (S26))).bind fun y601 => (if y598.length + y601.length < 8796093022208 then (Ya.l0 k x0 x1 (y598 ++ y601) (wrap64 (x6 + 1))) else (none)))) else (none)) else (none)) else (none))) else (none))) else (none)) else (none))
end
def Ya.f (k : Nat) (l0 : List (S30)) (a1 : Int) : Option ((List (S26))) := Ya.l0 k l0 a1 ([] : List (S26)) 0
theorem Ya.mono_l : ∀ k, (∀ y0 y1 y2 y3, LeO (Ya.l0 k y0 y1 y2 y3) (Ya.l0 (k + 1) y0 y1 y2 y3)) ∧ (∀ y0 y1 y2 y3 y4, LeO (Ya.l1 k y0 y1 y2 y3 y4) (Ya.l1 (k + 1) y0 y1 y2 y3 y4))
 | 0 => ⟨fun _ _ _ _ r h => by simp [Ya.l0] at h, fun _ _ _ _ _ r h => by simp [Ya.l1] at h⟩
 | k + 1 => by
  obtain ⟨ih0, ih1⟩ := Ya.mono_l k
  refine ⟨?_, ?_⟩
  ·intro y0 y1 y2 y3
   unfold Ya.l0
   repeat' first
   | (with_reducible exact ih0 _ _ _ _)
   | (with_reducible exact ih1 _ _ _ _ _)
   | (with_reducible exact LeO.refl _)
   | (with_reducible exact LeO.none _)
   | (with_reducible refine LeO.ite ?_ ?_)
   | (with_reducible refine LeO.bind ?_ (fun _ => ?_))
  ·intro y0 y1 y2 y3 y4
   unfold Ya.l1
   repeat' first
   | (with_reducible exact ih0 _ _ _ _)
   | (with_reducible exact ih1 _ _ _ _ _)
   | (with_reducible exact LeO.refl _)
   | (with_reducible exact LeO.none _)
   | (with_reducible refine LeO.ite ?_ ?_)
   | (with_reducible refine LeO.bind ?_ (fun _ => ?_))
theorem Ya.mono : ∀ a0 a1 k, LeO (Ya.f k a0 a1) (Ya.f (k + 1) a0 a1) := by
 intro a0 a1 k
 obtain ⟨ih0, ih1⟩ := Ya.mono_l k
 unfold Ya.f
 repeat' first
   | (with_reducible exact ih0 _ _ _ _)
   | (with_reducible exact ih1 _ _ _ _ _)
   | (with_reducible exact LeO.refl _)
   | (with_reducible exact LeO.none _)
   | (with_reducible refine LeO.ite ?_ ?_)
   | (with_reducible refine LeO.bind ?_ (fun _ => ?_))
def Ya.T7 : Bool × List (List Nat × List Nat) := (true, [([], []), ([], []), ([1], [1]), ([0, 2], [0, 2]), ([3], [3]), ([4], [4]), ([4], [4]), ([5, 6, 4], [4, 5, 6]), ([7, 4], [4, 7]), ([4], [4]), ([4], [4]), ([9, 10, 4], [4, 9, 10]), ([11, 4], [4, 11]), ([12, 4], [4, 12]), ([8, 13, 4, 4], [4, 8, 13]), ([4, 14], [4, 14])])
def Ya.B7 : List Nat := [0, 0, 2, 7, 15, 31, 31, 127, 255, 31, 31, 1567, 3615, 7711, 16383, 32767]
theorem Ya.tab7 : rtab .any (opsOf Try.f71 7) = Ya.T7 := by kernel_rfl
theorem Ya.bits7 : Y1z Ya.T7.2 Ya.B7 = true := by kernel_rfl
def Ya.T9 : Bool × List (List Nat × List Nat) := (true, [([], []), ([], []), ([1], [1]), ([0, 2], [0, 2]), ([3], [3]), ([4], [4]), ([4], [4]), ([5, 6, 4], [4, 5, 6]), ([7, 4], [4, 7]), ([4], [4]), ([4], [4]), ([9, 10, 4], [4, 9, 10]), ([11, 4], [4, 11]), ([12, 4], [4, 12]), ([8, 13, 4], [4, 8, 13]), ([4, 14], [4, 14])])
def Ya.B9 : List Nat := [0, 0, 2, 7, 15, 31, 31, 127, 255, 31, 31, 1567, 3615, 7711, 16383, 32767]
theorem Ya.tab9 : rtab .any (opsOf Try.f71 9) = Ya.T9 := by kernel_rfl
theorem Ya.bits9 : Y1z Ya.T9.2 Ya.B9 = true := by kernel_rfl
set_option maxHeartbeats 8000000 in
set_option maxRecDepth 100000 in
theorem Ya.calls (k : Nat) (A0 : Option Addr) (c0 : Nat) (l0 : List (S30)) (a1 : Int) (r : List (S26)) (w : World) (hr0 : Kd.C k30 w A0 l0.length l0) (hc0 : l0.length ≤ c0) (h : Ya.f k l0 a1 = some r) :
  Calls Try.prog 71 #[.slice A0 l0.length c0, .int .i64 a1] w fun e w' => ∃ v0_ : Value, e = .returned (v0_) ∧ Kd.R k26 26 w' w.heap.size (fun _ => True) v0_ r ∧ Below w.heap.size w w' := by
 have hu26 := Try.underlying26
 have HR0 := Y0.mk hr0
 have HC0 := Y0.mk hc0
 clear hr0 hc0
 have HB := Y0.mk (Below.refl w.heap.size w)
 have H : (Ya.l0 k l0 a1 ([] : List (S26)) 0) = some r := h
 clear h
 have H' := Y0.mk H
 clear H
 go_enter Try.func71, Try.ntmps71
 go_wp2
 go_loopg [5, 6] k (fun kq v5 v6 w' => ∃ (x5_1 : List (S26)) (x6_1 : Int), v6 = .int .i64 x6_1 ∧ Y0 (Ya.l0 kq l0 a1 x5_1 x6_1 = some r) ∧ Y0 (kq ≤ k) ∧ Y0 (Kd.R k26 26 w' w.heap.size (fun _ => True) v5 x5_1) ∧ Y0 (Below w.heap.size w w'))
 case atStart => exact ⟨(([] : List (S26))), (0), reS, H', ⟨Nat.le_refl _⟩, ⟨by first | exact Kd.R_nil _ _ _ _ _ | exact Kd.N_nil _ _ _ _ _ | exact Kd.V_nil _ _ _ _ _ | exact Kd.Q_nil _ _ _ _ _ | exact Kd.S_nil _ _ _ _ _⟩, ⟨hU HB.out⟩⟩
 case round =>
  clear H'
  try clear p2
  obtain ⟨x5_1, x6_1, rfl, HA, HK1, HO_5, HB⟩ := hrel
  cases gk with
  | zero => exact absurd HA.out (by simp [Ya.l0])
  | succ k1 =>
   have H := HA.out
   clear HA
   simp only [Ya.l0] at H
   by_cases c3 : x6_1 < (l0.length : Int)
   ·rw [if_pos c3] at H
    have c3b0 := decide_eq_true c3
    clear c3
    obtain ⟨c4, H⟩ := iS H
    have c4b0 := decide_eq_true c4
    clear c4
    by_cases c5 : ((Y7 l0 x6_1).f1) = a1
    ·rw [if_pos c5] at H
     have c5b0 := bqT c5
     have c5b1 := bnF c5
     clear c5
     have H' := Y0.mk H
     clear H
     have p566 : 0 ≤ (x6_1 : Int) := of_decide_eq_true (by first | (with_reducible assumption) | assumption)
     have q566 : x6_1 < (l0.length : Int) := of_decide_eq_true (by first | (with_reducible assumption) | assumption)
     obtain ⟨d_0, e566, m_u, m_y, m_11, m_t, m_s, m_13, m_w, m_v, m_x, m_z, m_14, m_10, m_12⟩ := Y1m HR0.out x6_1 p566 q566
     cases e566
     replace m_u := hbC HB m_u
     replace m_y := hbC HB m_y
     replace m_11 := hbC HB m_11
     replace m_t := hbC HB m_t
     replace m_s := hbC HB m_s
     replace m_13 := hbC HB m_13
     replace m_w := hbC HB m_w
     replace m_v := hbC HB m_v
     replace m_x := hbC HB m_x
     replace m_z := hbC HB m_z
     replace m_14 := hbC HB m_14
     replace m_10 := hbC HB m_10
     replace m_12 := hbC HB m_12
     replace p566 := eq_true p566
     replace q566 := eq_true q566
     go_wp2
     go_loopg [7] k1 (fun kq v7 w' => ∃ (x7_2 : Int), v7 = .int .i64 x7_2 ∧ Y0 (Ya.l1 kq l0 a1 x5_1 x6_1 x7_2 = some r) ∧ Y0 (kq ≤ k1) ∧ Y0 (Kd.R k26 26 w' w.heap.size (fun _ => True) u5 x5_1) ∧ Y0 (Below w.heap.size w w'))
     case atStart => exact ⟨(0), reS, H', ⟨Nat.le_refl _⟩, ⟨by (with_reducible repeat (first | apply Kd.R_alloc | apply Kd.R_drewN | apply Kd.R_drew)); exact HO_5.out⟩, ⟨hU HB.out⟩⟩
     case round =>
      clear H'
      try clear p2
      try clear c3
      try clear c3b0
      try clear c4
      try clear c4b0
      try clear c5
      try clear c5b0
      try clear c5b1
      try clear p5
      try clear q5
      try clear hx5
      try clear m_u
      try clear m_y
      try clear m_14
      try clear m_10
      try clear m_12
      try clear m_11
      try clear m_t
      try clear m_s
      try clear m_13
      try clear m_w
      try clear m_v
      try clear m_x
      try clear m_z
      try clear p2
      try clear p566
      try clear q566
      obtain ⟨x7_2, rfl, HA, HK2, HO_5, HB⟩ := hrel
      cases gk with
      | zero => exact absurd HA.out (by simp [Ya.l1])
      | succ k2 =>
       have H := HA.out
       clear HA
       simp only [Ya.l1] at H
       by_cases c6 : x7_2 < (x5_1.length : Int)
       ·rw [if_pos c6] at H
        have c6b0 := decide_eq_true c6
        clear c6
        obtain ⟨c7, H⟩ := iS H
        have c7b0 := decide_eq_true c7
        clear c7
        obtain ⟨c8, H⟩ := iS H
        have c8b0 := decide_eq_true c8
        clear c8
        obtain ⟨c9, H⟩ := iS H
        have c9b0 := decide_eq_true c9
        clear c9
        obtain ⟨t_0, A100, H⟩ := bS H
        try dsimp only at H
        have A10 := Y0.mk A100
        clear A100
        by_cases c11 : t_0 = true
        ·subst c11
         have H1 : (Ya.l1 k2 l0 a1 x5_1 x6_1 (wrap64 (x7_2 + 1))) = some r := by rw [if_pos rfl] at H; exact H
         clear H
         have H := H1
         clear H1
         have H' := Y0.mk H
         clear H
         try go_wp2
         replace HO_5 := Y0.mk (Kd.R_drew HO_5.out)
         replace HB := Y0.mk (Yy HB.out)
         obtain ⟨Ao13, co13, eo13⟩ := Kd.R_slice HO_5.out
         (first | subst eo13 | (injection eo13 with f1_ f2_ f3_; have f4_ := f1_.symm; have f5_ := f3_.symm; clear f1_ f2_ f3_; subst f4_; subst f5_))
         have p567 : 0 ≤ (x7_2 : Int) := of_decide_eq_true (by first | (with_reducible assumption) | assumption)
         have q567 : x7_2 < (x5_1.length : Int) := of_decide_eq_true (by first | (with_reducible assumption) | assumption)
         obtain ⟨d_1, e567, m_r, m_q⟩ := Y1Z (Kd.R_reads' HO_5.out).2.2 x7_2 p567 q567
         cases e567
         replace p567 := eq_true p567
         replace q567 := eq_true q567
         have p568 : 0 ≤ (x6_1 : Int) := of_decide_eq_true (by first | (with_reducible assumption) | assumption)
         have q568 : x6_1 < (l0.length : Int) := of_decide_eq_true (by first | (with_reducible assumption) | assumption)
         obtain ⟨d_2, e568, m_9, m_c, m_7, m_5, m_2, m_3, m_8, m_4, m_0, m_b, m_a, m_1, m_6⟩ := Y1m HR0.out x6_1 p568 q568
         have q_7 := m_6
         have q_c := m_1
         have q_9 := m_a
         have q_8 := m_b
         have q_2 := m_0
         have q_6 := m_4
         have q_1 := m_8
         have q_4 := m_3
         have q_5 := m_2
         have q_b := m_5
         have q_0 := m_7
         have q_3 := m_c
         have q_a := m_9
         obtain rfl : d_0 = d_2 := (by injection e568)
         replace m_9 := hbC HB m_9
         replace m_c := hbC HB m_c
         replace m_7 := hbC HB m_7
         replace m_5 := hbC HB m_5
         replace m_2 := hbC HB m_2
         replace m_3 := hbC HB m_3
         replace m_8 := hbC HB m_8
         replace m_4 := hbC HB m_4
         replace m_0 := hbC HB m_0
         replace m_b := hbC HB m_b
         replace m_a := hbC HB m_a
         replace m_1 := hbC HB m_1
         replace m_6 := hbC HB m_6
         replace p568 := eq_true p568
         replace q568 := eq_true q568
         refine Y1i (n := 16) (S := fun w' => w'.cell? (d_1.add ((x7_2).toNat * 2)) = some (.int .i64 ((Yx x5_1 x7_2).f0)) ∧ w'.cell? ⟨(d_1.add ((x7_2).toNat * 2)).block, (d_1.add ((x7_2).toNat * 2)).off + 1, none⟩ = some (.int .i64 ((Yx x5_1 x7_2).f1)) ∧ w'.cell? (d_0.add ((x6_1).toNat * 13)) = some (.int .i64 ((Y7 l0 x6_1).f0.f0)) ∧ w'.cell? ⟨(d_0.add ((x6_1).toNat * 13)).block, (d_0.add ((x6_1).toNat * 13)).off + 1, none⟩ = some (.int .i64 ((Y7 l0 x6_1).f0.f1)) ∧ w'.cell? ⟨(d_0.add ((x6_1).toNat * 13)).block, (d_0.add ((x6_1).toNat * 13)).off + 2, none⟩ = some (.int .i64 ((Y7 l0 x6_1).f1)) ∧ w'.cell? ⟨(d_0.add ((x6_1).toNat * 13)).block, (d_0.add ((x6_1).toNat * 13)).off + 3, none⟩ = some (.int .i64 ((Y7 l0 x6_1).f2.f0)) ∧ w'.cell? ⟨(d_0.add ((x6_1).toNat * 13)).block, (d_0.add ((x6_1).toNat * 13)).off + 4, none⟩ = some (.int .i64 ((Y7 l0 x6_1).f2.f1)) ∧ w'.cell? ⟨(d_0.add ((x6_1).toNat * 13)).block, (d_0.add ((x6_1).toNat * 13)).off + 5, none⟩ = some (.bool ((Y7 l0 x6_1).f3)) ∧ w'.cell? ⟨(d_0.add ((x6_1).toNat * 13)).block, (d_0.add ((x6_1).toNat * 13)).off + 6, none⟩ = some (.int .i64 ((Y7 l0 x6_1).f4.f0)) ∧ w'.cell? ⟨(d_0.add ((x6_1).toNat * 13)).block, (d_0.add ((x6_1).toNat * 13)).off + 7, none⟩ = some (.int .i64 ((Y7 l0 x6_1).f4.f1)) ∧ w'.cell? ⟨(d_0.add ((x6_1).toNat * 13)).block, (d_0.add ((x6_1).toNat * 13)).off + 8, none⟩ = some (.int .i64 ((Y7 l0 x6_1).f4.f2)) ∧ w'.cell? ⟨(d_0.add ((x6_1).toNat * 13)).block, (d_0.add ((x6_1).toNat * 13)).off + 9, none⟩ = some (.int .i64 ((Y7 l0 x6_1).f4.f3)) ∧ w'.cell? ⟨(d_0.add ((x6_1).toNat * 13)).block, (d_0.add ((x6_1).toNat * 13)).off + 10, none⟩ = some (.int .i64 ((Y7 l0 x6_1).f4.f4)) ∧ w'.cell? ⟨(d_0.add ((x6_1).toNat * 13)).block, (d_0.add ((x6_1).toNat * 13)).off + 11, none⟩ = some (.int .i64 ((Y7 l0 x6_1).f4.f5)) ∧ w'.cell? ⟨(d_0.add ((x6_1).toNat * 13)).block, (d_0.add ((x6_1).toNat * 13)).off + 12, none⟩ = some (.int .i64 ((Y7 l0 x6_1).f4.f6))) (ds := []) #[false, false, false, false, false, false, false, false, false, false, false, false, false, false, false, false] (by kernel_rfl) rfl rfl ⟨m_r, m_q, (hbC HB q_a), (hbC HB q_3), (hbC HB q_0), (hbC HB q_b), (hbC HB q_5), (hbC HB q_4), (hbC HB q_1), (hbC HB q_6), (hbC HB q_2), (hbC HB q_8), (hbC HB q_9), (hbC HB q_c), (hbC HB q_7)⟩ (fun hHeld => ?_); refine Y10 Ya.tab7 Ya.bits7 (fun HT_ HW_ => ?_)
         generalize wr.drew = w12 at HO_5 HB m_r m_q m_9 m_c m_a m_1 m_6 m_7 m_5 m_2 m_3 m_8 m_4 m_0 m_b hHeld ⊢
         refine puA 0 22 (bs 16 1) ?_
         refine puA 1 23 (bs 16 3) ?_
         refine puA 2 24 (bs 16 7) ?_
         refine puA 3 25 (bs 16 15) ?_
         refine puA 4 26 (bs 16 31) ?_
         refine puA 5 27 (bs 16 63) ?_
         refine puA 6 28 (bs 16 127) ?_
         refine puA 7 29 (bs 16 255) ?_
         refine puA 9 31 (bs 16 767) ?_
         refine puA 10 32 (bs 16 1791) ?_
         refine puA 11 33 (bs 16 3839) ?_
         refine puA 12 34 (bs 16 7935) ?_
         refine tkA 8 30 (bs 16 8191) hHeld ?_
         refine tkA 13 35 (bs 16 16383) hHeld ?_
         refine one_ (i := 14) (N := some 36) (bs 16 32767) rfl rfl (YZ HT_.out (by kernel_rfl)) (by decide) (fun K hK => ?_)
         refine goes_ Try.func79 (by kernel_rfl) rfl #[.agg #[.int .i64 ((Yx x5_1 x7_2).f0), .int .i64 ((Yx x5_1 x7_2).f1)], .agg #[.int .i64 ((Y7 l0 x6_1).f2.f0), .int .i64 ((Y7 l0 x6_1).f2.f1)]] (by rfl) rfl rfl (by (try simp only [List.map_toArray, List.map_cons, List.map_nil]); first | done | rfl | (simp only [List.length_drop, List.length_take]; rfl)) ?_
         with_reducible refine (YA.calls ((Yx x5_1 x7_2).f0) ((Yx x5_1 x7_2).f1) ((Y7 l0 x6_1).f2.f0) ((Y7 l0 x6_1).f2.f1) true _ A10.out).mono ?_
         rintro e w14 ⟨rfl, hb⟩
         have HS0_ := (hb.cell (World.block_lt_of_cell? _ _ (hHeld.1))).trans (hHeld.1)
         have HS1_ := (hb.cell (World.block_lt_of_cell? _ _ (hHeld.2.1))).trans (hHeld.2.1)
         refine ⟨_, rfl, ?_⟩
         replace HO_5 := Y0.mk (Kd.R_below (Kd.rU HO_5.out) hb)
         replace HB := Y0.mk (Y4 (hU HB.out) hb)
         (try clear hb)
         (try clear hb2)
         (try clear hk)
         (try clear hi)
         refine hK.out _ _ ⟨HS0_, HS1_, (hbC HB q_a), (hbC HB q_3), (hbC HB q_0), (hbC HB q_b), (hbC HB q_5), (hbC HB q_4), (hbC HB q_1), (hbC HB q_6), (hbC HB q_2), (hbC HB q_8), (hbC HB q_9), (hbC HB q_c), (hbC HB q_7)⟩ (fun hHeld => ?_)
         clear hK K
         refine nmA 36 ?_
         refine puA 15 37 (bs 16 65535) ?_
         refine done_ (Y1h HT_.out (by kernel_rfl)) ?_
         try go_wp2
         go_roundg k2
         case measure => have := HK1.out; have := HK2.out; omega
         case rel => exact ⟨(wrap64 (x7_2 + 1)), reS, H', ⟨by have := HK1.out; have := HK2.out; omega⟩, ⟨by (with_reducible repeat (first | apply Kd.R_alloc | apply Kd.R_drewN | apply Kd.R_drew)); exact HO_5.out⟩, ⟨hU HB.out⟩⟩
        ·replace c11 := Bool.eq_false_iff.mpr c11
         subst c11
         rw [if_neg (show ¬ (false = true) by decide)] at H
         by_cases c15 : (((Yx x5_1 x7_2).f0) == ((Y7 l0 x6_1).f2.f0) && (((Yx x5_1 x7_2).f1) == ((Y7 l0 x6_1).f2.f1))) = true
         ·rw [if_pos c15] at H
          have c15b0 : (((Yx x5_1 x7_2).f0) == ((Y7 l0 x6_1).f2.f0) && (((Yx x5_1 x7_2).f1) == ((Y7 l0 x6_1).f2.f1))) = true := c15
          (try (have c15b1 : decide (((Yx x5_1 x7_2).f0) = ((Y7 l0 x6_1).f2.f0) && (((Yx x5_1 x7_2).f1) == ((Y7 l0 x6_1).f2.f1))) = true := by simpa using c15))
          (try (have c15b2 : (((Yx x5_1 x7_2).f0) == ((Y7 l0 x6_1).f2.f0) && (((Yx x5_1 x7_2).f1) == ((Y7 l0 x6_1).f2.f1))) = true := by simpa using c15))
          clear c15
          have H' := Y0.mk H
          clear H
          try go_wp2
          replace HO_5 := Y0.mk (Kd.R_drew HO_5.out)
          replace HB := Y0.mk (Yy HB.out)
          obtain ⟨Ao17, co17, eo17⟩ := Kd.R_slice HO_5.out
          (first | subst eo17 | (injection eo17 with f1_ f2_ f3_; have f4_ := f1_.symm; have f5_ := f3_.symm; clear f1_ f2_ f3_; subst f4_; subst f5_))
          have p567 : 0 ≤ (x7_2 : Int) := of_decide_eq_true (by first | (with_reducible assumption) | assumption)
          have q567 : x7_2 < (x5_1.length : Int) := of_decide_eq_true (by first | (with_reducible assumption) | assumption)
          obtain ⟨d_1, e567, m_r, m_q⟩ := Y1Z (Kd.R_reads' HO_5.out).2.2 x7_2 p567 q567
          cases e567
          replace p567 := eq_true p567
          replace q567 := eq_true q567
          have p568 : 0 ≤ (x6_1 : Int) := of_decide_eq_true (by first | (with_reducible assumption) | assumption)
          have q568 : x6_1 < (l0.length : Int) := of_decide_eq_true (by first | (with_reducible assumption) | assumption)
          obtain ⟨d_2, e568, m_9, m_c, m_7, m_5, m_2, m_3, m_8, m_4, m_0, m_b, m_a, m_1, m_6⟩ := Y1m HR0.out x6_1 p568 q568
          have q_7 := m_6
          have q_c := m_1
          have q_9 := m_a
          have q_8 := m_b
          have q_2 := m_0
          have q_6 := m_4
          have q_1 := m_8
          have q_4 := m_3
          have q_5 := m_2
          have q_b := m_5
          have q_0 := m_7
          have q_3 := m_c
          have q_a := m_9
          obtain rfl : d_0 = d_2 := (by injection e568)
          replace m_9 := hbC HB m_9
          replace m_c := hbC HB m_c
          replace m_7 := hbC HB m_7
          replace m_5 := hbC HB m_5
          replace m_2 := hbC HB m_2
          replace m_3 := hbC HB m_3
          replace m_8 := hbC HB m_8
          replace m_4 := hbC HB m_4
          replace m_0 := hbC HB m_0
          replace m_b := hbC HB m_b
          replace m_a := hbC HB m_a
          replace m_1 := hbC HB m_1
          replace m_6 := hbC HB m_6
          replace p568 := eq_true p568
          replace q568 := eq_true q568
          refine Y1i (n := 16) (S := fun w' => w'.cell? (d_1.add ((x7_2).toNat * 2)) = some (.int .i64 ((Yx x5_1 x7_2).f0)) ∧ w'.cell? ⟨(d_1.add ((x7_2).toNat * 2)).block, (d_1.add ((x7_2).toNat * 2)).off + 1, none⟩ = some (.int .i64 ((Yx x5_1 x7_2).f1)) ∧ w'.cell? (d_0.add ((x6_1).toNat * 13)) = some (.int .i64 ((Y7 l0 x6_1).f0.f0)) ∧ w'.cell? ⟨(d_0.add ((x6_1).toNat * 13)).block, (d_0.add ((x6_1).toNat * 13)).off + 1, none⟩ = some (.int .i64 ((Y7 l0 x6_1).f0.f1)) ∧ w'.cell? ⟨(d_0.add ((x6_1).toNat * 13)).block, (d_0.add ((x6_1).toNat * 13)).off + 2, none⟩ = some (.int .i64 ((Y7 l0 x6_1).f1)) ∧ w'.cell? ⟨(d_0.add ((x6_1).toNat * 13)).block, (d_0.add ((x6_1).toNat * 13)).off + 3, none⟩ = some (.int .i64 ((Y7 l0 x6_1).f2.f0)) ∧ w'.cell? ⟨(d_0.add ((x6_1).toNat * 13)).block, (d_0.add ((x6_1).toNat * 13)).off + 4, none⟩ = some (.int .i64 ((Y7 l0 x6_1).f2.f1)) ∧ w'.cell? ⟨(d_0.add ((x6_1).toNat * 13)).block, (d_0.add ((x6_1).toNat * 13)).off + 5, none⟩ = some (.bool ((Y7 l0 x6_1).f3)) ∧ w'.cell? ⟨(d_0.add ((x6_1).toNat * 13)).block, (d_0.add ((x6_1).toNat * 13)).off + 6, none⟩ = some (.int .i64 ((Y7 l0 x6_1).f4.f0)) ∧ w'.cell? ⟨(d_0.add ((x6_1).toNat * 13)).block, (d_0.add ((x6_1).toNat * 13)).off + 7, none⟩ = some (.int .i64 ((Y7 l0 x6_1).f4.f1)) ∧ w'.cell? ⟨(d_0.add ((x6_1).toNat * 13)).block, (d_0.add ((x6_1).toNat * 13)).off + 8, none⟩ = some (.int .i64 ((Y7 l0 x6_1).f4.f2)) ∧ w'.cell? ⟨(d_0.add ((x6_1).toNat * 13)).block, (d_0.add ((x6_1).toNat * 13)).off + 9, none⟩ = some (.int .i64 ((Y7 l0 x6_1).f4.f3)) ∧ w'.cell? ⟨(d_0.add ((x6_1).toNat * 13)).block, (d_0.add ((x6_1).toNat * 13)).off + 10, none⟩ = some (.int .i64 ((Y7 l0 x6_1).f4.f4)) ∧ w'.cell? ⟨(d_0.add ((x6_1).toNat * 13)).block, (d_0.add ((x6_1).toNat * 13)).off + 11, none⟩ = some (.int .i64 ((Y7 l0 x6_1).f4.f5)) ∧ w'.cell? ⟨(d_0.add ((x6_1).toNat * 13)).block, (d_0.add ((x6_1).toNat * 13)).off + 12, none⟩ = some (.int .i64 ((Y7 l0 x6_1).f4.f6))) (ds := []) #[false, false, false, false, false, false, false, false, false, false, false, false, false, false, false, false] (by kernel_rfl) rfl rfl ⟨m_r, m_q, (hbC HB q_a), (hbC HB q_3), (hbC HB q_0), (hbC HB q_b), (hbC HB q_5), (hbC HB q_4), (hbC HB q_1), (hbC HB q_6), (hbC HB q_2), (hbC HB q_8), (hbC HB q_9), (hbC HB q_c), (hbC HB q_7)⟩ (fun hHeld => ?_); refine Y10 Ya.tab7 Ya.bits7 (fun HT_ HW_ => ?_)
          generalize wr.drew = w16 at HO_5 HB m_r m_q m_9 m_c m_a m_1 m_6 m_7 m_5 m_2 m_3 m_8 m_4 m_0 m_b hHeld ⊢
          refine puA 0 22 (bs 16 1) ?_
          refine puA 1 23 (bs 16 3) ?_
          refine puA 2 24 (bs 16 7) ?_
          refine puA 3 25 (bs 16 15) ?_
          refine puA 4 26 (bs 16 31) ?_
          refine puA 5 27 (bs 16 63) ?_
          refine puA 6 28 (bs 16 127) ?_
          refine puA 7 29 (bs 16 255) ?_
          refine puA 9 31 (bs 16 767) ?_
          refine puA 10 32 (bs 16 1791) ?_
          refine puA 11 33 (bs 16 3839) ?_
          refine puA 12 34 (bs 16 7935) ?_
          refine tkA 8 30 (bs 16 8191) hHeld ?_
          refine tkA 13 35 (bs 16 16383) hHeld ?_
          refine one_ (i := 14) (N := some 36) (bs 16 32767) rfl rfl (YZ HT_.out (by kernel_rfl)) (by decide) (fun K hK => ?_)
          refine goes_ Try.func79 (by kernel_rfl) rfl #[.agg #[.int .i64 ((Yx x5_1 x7_2).f0), .int .i64 ((Yx x5_1 x7_2).f1)], .agg #[.int .i64 ((Y7 l0 x6_1).f2.f0), .int .i64 ((Y7 l0 x6_1).f2.f1)]] (by rfl) rfl rfl (by (try simp only [List.map_toArray, List.map_cons, List.map_nil]); first | done | rfl | (simp only [List.length_drop, List.length_take]; rfl)) ?_
          with_reducible refine (YA.calls ((Yx x5_1 x7_2).f0) ((Yx x5_1 x7_2).f1) ((Y7 l0 x6_1).f2.f0) ((Y7 l0 x6_1).f2.f1) false _ A10.out).mono ?_
          rintro e w18 ⟨rfl, hb⟩
          have HS0_ := (hb.cell (World.block_lt_of_cell? _ _ (hHeld.1))).trans (hHeld.1)
          have HS1_ := (hb.cell (World.block_lt_of_cell? _ _ (hHeld.2.1))).trans (hHeld.2.1)
          refine ⟨_, rfl, ?_⟩
          replace HO_5 := Y0.mk (Kd.R_below (Kd.rU HO_5.out) hb)
          replace HB := Y0.mk (Y4 (hU HB.out) hb)
          (try clear hb)
          (try clear hb2)
          (try clear hk)
          (try clear hi)
          refine hK.out _ _ ⟨HS0_, HS1_, (hbC HB q_a), (hbC HB q_3), (hbC HB q_0), (hbC HB q_b), (hbC HB q_5), (hbC HB q_4), (hbC HB q_1), (hbC HB q_6), (hbC HB q_2), (hbC HB q_8), (hbC HB q_9), (hbC HB q_c), (hbC HB q_7)⟩ (fun hHeld => ?_)
          clear hK K
          refine nmA 36 ?_
          refine puA 15 37 (bs 16 65535) ?_
          refine done_ (Y1h HT_.out (by kernel_rfl)) ?_
          try go_wp2
          replace HO_5 := Y0.mk (Kd.R_drew HO_5.out)
          replace HB := Y0.mk (Yy HB.out)
          have p570 : 0 ≤ (x7_2 : Int) := of_decide_eq_true (by first | (with_reducible assumption) | assumption)
          have q570 : x7_2 < (x5_1.length : Int) := of_decide_eq_true (by first | (with_reducible assumption) | assumption)
          obtain ⟨d_4, e570, m_15, m_16⟩ := Y1Z (Kd.R_reads' HO_5.out).2.2 x7_2 p570 q570
          obtain rfl : d_1 = d_4 := (by injection e570)
          replace p570 := eq_true p570
          replace q570 := eq_true q570
          have p571 : 0 ≤ (x6_1 : Int) := of_decide_eq_true (by first | (with_reducible assumption) | assumption)
          have q571 : x6_1 < (l0.length : Int) := of_decide_eq_true (by first | (with_reducible assumption) | assumption)
          obtain ⟨d_3, e571, m_n, m_f, m_k, m_m, m_h, m_d, m_i, m_p, m_e, m_j, m_o, m_l, m_g⟩ := Y1m HR0.out x6_1 p571 q571
          have q_n := m_g
          have q_h := m_l
          have q_g := m_o
          have q_k := m_j
          have q_i := m_e
          have q_d := m_p
          have q_f := m_i
          have q_p := m_d
          have q_m := m_h
          have q_e := m_m
          have q_l := m_k
          have q_j := m_f
          have q_o := m_n
          obtain rfl : d_0 = d_3 := (by injection e571)
          replace m_n := hbC HB m_n
          replace m_f := hbC HB m_f
          replace m_k := hbC HB m_k
          replace m_m := hbC HB m_m
          replace m_h := hbC HB m_h
          replace m_d := hbC HB m_d
          replace m_i := hbC HB m_i
          replace m_p := hbC HB m_p
          replace m_e := hbC HB m_e
          replace m_j := hbC HB m_j
          replace m_o := hbC HB m_o
          replace m_l := hbC HB m_l
          replace m_g := hbC HB m_g
          replace p571 := eq_true p571
          replace q571 := eq_true q571
          refine Y1i (n := 16) (S := fun w' => w'.cell? (d_1.add ((x7_2).toNat * 2)) = some (.int .i64 ((Yx x5_1 x7_2).f0)) ∧ w'.cell? ⟨(d_1.add ((x7_2).toNat * 2)).block, (d_1.add ((x7_2).toNat * 2)).off + 1, none⟩ = some (.int .i64 ((Yx x5_1 x7_2).f1)) ∧ w'.cell? (d_0.add ((x6_1).toNat * 13)) = some (.int .i64 ((Y7 l0 x6_1).f0.f0)) ∧ w'.cell? ⟨(d_0.add ((x6_1).toNat * 13)).block, (d_0.add ((x6_1).toNat * 13)).off + 1, none⟩ = some (.int .i64 ((Y7 l0 x6_1).f0.f1)) ∧ w'.cell? ⟨(d_0.add ((x6_1).toNat * 13)).block, (d_0.add ((x6_1).toNat * 13)).off + 2, none⟩ = some (.int .i64 ((Y7 l0 x6_1).f1)) ∧ w'.cell? ⟨(d_0.add ((x6_1).toNat * 13)).block, (d_0.add ((x6_1).toNat * 13)).off + 3, none⟩ = some (.int .i64 ((Y7 l0 x6_1).f2.f0)) ∧ w'.cell? ⟨(d_0.add ((x6_1).toNat * 13)).block, (d_0.add ((x6_1).toNat * 13)).off + 4, none⟩ = some (.int .i64 ((Y7 l0 x6_1).f2.f1)) ∧ w'.cell? ⟨(d_0.add ((x6_1).toNat * 13)).block, (d_0.add ((x6_1).toNat * 13)).off + 5, none⟩ = some (.bool ((Y7 l0 x6_1).f3)) ∧ w'.cell? ⟨(d_0.add ((x6_1).toNat * 13)).block, (d_0.add ((x6_1).toNat * 13)).off + 6, none⟩ = some (.int .i64 ((Y7 l0 x6_1).f4.f0)) ∧ w'.cell? ⟨(d_0.add ((x6_1).toNat * 13)).block, (d_0.add ((x6_1).toNat * 13)).off + 7, none⟩ = some (.int .i64 ((Y7 l0 x6_1).f4.f1)) ∧ w'.cell? ⟨(d_0.add ((x6_1).toNat * 13)).block, (d_0.add ((x6_1).toNat * 13)).off + 8, none⟩ = some (.int .i64 ((Y7 l0 x6_1).f4.f2)) ∧ w'.cell? ⟨(d_0.add ((x6_1).toNat * 13)).block, (d_0.add ((x6_1).toNat * 13)).off + 9, none⟩ = some (.int .i64 ((Y7 l0 x6_1).f4.f3)) ∧ w'.cell? ⟨(d_0.add ((x6_1).toNat * 13)).block, (d_0.add ((x6_1).toNat * 13)).off + 10, none⟩ = some (.int .i64 ((Y7 l0 x6_1).f4.f4)) ∧ w'.cell? ⟨(d_0.add ((x6_1).toNat * 13)).block, (d_0.add ((x6_1).toNat * 13)).off + 11, none⟩ = some (.int .i64 ((Y7 l0 x6_1).f4.f5)) ∧ w'.cell? ⟨(d_0.add ((x6_1).toNat * 13)).block, (d_0.add ((x6_1).toNat * 13)).off + 12, none⟩ = some (.int .i64 ((Y7 l0 x6_1).f4.f6))) (ds := []) #[false, false, false, false, false, false, false, false, false, false, false, false, false, false, false, false] (by kernel_rfl) rfl rfl ⟨m_15, m_16, (hbC HB q_o), (hbC HB q_j), (hbC HB q_l), (hbC HB q_e), (hbC HB q_m), (hbC HB q_p), (hbC HB q_f), (hbC HB q_d), (hbC HB q_i), (hbC HB q_k), (hbC HB q_g), (hbC HB q_h), (hbC HB q_n)⟩ (fun hHeld => ?_); refine Y10 Ya.tab9 Ya.bits9 (fun HT_ HW_ => ?_)
          generalize w18.drew = w19 at HO_5 HB m_15 m_16 m_n m_f m_o m_l m_g m_k m_m m_h m_d m_i m_p m_e m_j hHeld ⊢
          refine puA 0 40 (bs 16 1) ?_
          refine puA 1 41 (bs 16 3) ?_
          refine puA 2 42 (bs 16 7) ?_
          refine puA 3 43 (bs 16 15) ?_
          refine puA 4 44 (bs 16 31) ?_
          refine puA 5 45 (bs 16 63) ?_
          refine puA 6 46 (bs 16 127) ?_
          refine puA 7 47 (bs 16 255) ?_
          refine puA 9 49 (bs 16 767) ?_
          refine puA 10 50 (bs 16 1791) ?_
          refine puA 11 51 (bs 16 3839) ?_
          refine puA 12 52 (bs 16 7935) ?_
          refine tkA 8 48 (bs 16 8191) hHeld ?_
          refine tkA 13 53 (bs 16 16383) hHeld ?_
          refine puA 14 54 (bs 16 32767) ?_
          refine puA 15 55 (bs 16 65535) ?_
          refine done_ (Y1h HT_.out (by kernel_rfl)) ?_
          try go_wp2
          go_roundg k2
          case measure => have := HK1.out; have := HK2.out; omega
          case rel => exact ⟨(x5_1), (wrap64 (x6_1 + 1)), reS, H', ⟨by have := HK1.out; have := HK2.out; omega⟩, ⟨by (with_reducible repeat (first | apply Kd.R_alloc | apply Kd.R_drewN | apply Kd.R_drew)); exact HO_5.out⟩, ⟨hU HB.out⟩⟩
         ·rw [if_neg c15] at H
          have c15b0 : (((Yx x5_1 x7_2).f0) == ((Y7 l0 x6_1).f2.f0) && (((Yx x5_1 x7_2).f1) == ((Y7 l0 x6_1).f2.f1))) = false := by simpa using c15
          (try (have c15b1 : decide (((Yx x5_1 x7_2).f0) = ((Y7 l0 x6_1).f2.f0) && (((Yx x5_1 x7_2).f1) == ((Y7 l0 x6_1).f2.f1))) = false := by simpa using c15))
          (try (have c15b2 : (((Yx x5_1 x7_2).f0) == ((Y7 l0 x6_1).f2.f0) && (((Yx x5_1 x7_2).f1) == ((Y7 l0 x6_1).f2.f1))) = false := by simpa using c15))
          (try (have c15b3 : ¬ (((Yx x5_1 x7_2).f0) = ((Y7 l0 x6_1).f2.f0) && (((Yx x5_1 x7_2).f1) == ((Y7 l0 x6_1).f2.f1))) := by simpa using c15))
          clear c15
          have c20b0 := eq_true (of_decide_eq_true (by first | (with_reducible assumption) | assumption) : 0 ≤ x7_2)
          obtain ⟨c21, H⟩ := iS H
          have c21b0 := eq_true c21
          have c21b1 := decide_eq_true c21
          clear c21
          obtain ⟨y572, hy572⟩ : ∃ y_ : List (S26), y_ = (x5_1.take (x7_2 : Int).toNat) := ⟨_, rfl⟩
          replace H : (if ([] : List (S26)).length + y572.length < 8796093022208 then ((some (([] : List (S26)) ++ y572 : List (S26))).bind fun y576 => (if y576.length < 8796093022208 then ((some (y576 ++ [(⟨(Y7 l0 x6_1).f2.f0, (Y7 l0 x6_1).f2.f1⟩ : S26)] : List (S26))).bind fun y580 => ((some (x5_1.drop (x7_2 : Int).toNat : List (S26))).bind fun y583 => (if y580.length + y583.length < 8796093022208 then (Ya.l0 k2 l0 a1 (y580 ++ y583) (wrap64 (x6_1 + 1))) else (none)))) else (none))) else (none)) = some r := by first | (rw [hy572]; with_reducible exact H) | (have H2_ := (Option.bind_some _ _).symm.trans H; rw [hy572]; with_reducible exact H2_) | (have H2_ := (Option.bind_some _ _).symm.trans H; with_reducible exact H2_) | with_reducible exact H | (rw [hy572]; exact H) | exact H
          have Ny572 := Y0.mk hy572
          clear hy572
          obtain ⟨c22, H⟩ := iS H
          have LMc22 := Y0.mk c22
          clear c22
          obtain ⟨y576, hy576⟩ : ∃ y_ : List (S26), y_ = (([] : List (S26)) ++ y572) := ⟨_, rfl⟩
          replace H : (if y576.length < 8796093022208 then ((some (y576 ++ [(⟨(Y7 l0 x6_1).f2.f0, (Y7 l0 x6_1).f2.f1⟩ : S26)] : List (S26))).bind fun y580 => ((some (x5_1.drop (x7_2 : Int).toNat : List (S26))).bind fun y583 => (if y580.length + y583.length < 8796093022208 then (Ya.l0 k2 l0 a1 (y580 ++ y583) (wrap64 (x6_1 + 1))) else (none)))) else (none)) = some r := by first | (rw [hy576]; with_reducible exact H) | (have H2_ := (Option.bind_some _ _).symm.trans H; rw [hy576]; with_reducible exact H2_) | (have H2_ := (Option.bind_some _ _).symm.trans H; with_reducible exact H2_) | with_reducible exact H | (rw [hy576]; exact H) | exact H
          have Ny576 := Y0.mk hy576
          clear hy576
          obtain ⟨c23, H⟩ := iS H
          have LMc23 := Y0.mk c23
          clear c23
          obtain ⟨y580, hy580⟩ : ∃ y_ : List (S26), y_ = (y576 ++ [(⟨(Y7 l0 x6_1).f2.f0, (Y7 l0 x6_1).f2.f1⟩ : S26)]) := ⟨_, rfl⟩
          replace H : ((some (x5_1.drop (x7_2 : Int).toNat : List (S26))).bind fun y583 => (if y580.length + y583.length < 8796093022208 then (Ya.l0 k2 l0 a1 (y580 ++ y583) (wrap64 (x6_1 + 1))) else (none))) = some r := by first | (rw [hy580]; with_reducible exact H) | (have H2_ := (Option.bind_some _ _).symm.trans H; rw [hy580]; with_reducible exact H2_) | (have H2_ := (Option.bind_some _ _).symm.trans H; with_reducible exact H2_) | with_reducible exact H | (rw [hy580]; exact H) | exact H
          have Ny580 := Y0.mk hy580
          clear hy580
          have c24b0 := eq_true (of_decide_eq_true (by first | (with_reducible assumption) | assumption) : 0 ≤ x7_2)
          have c25b0 := eq_true (of_decide_eq_true (by first | (with_reducible assumption) | assumption) : x7_2 ≤ (x5_1.length : Int))
          obtain ⟨y583, hy583⟩ : ∃ y_ : List (S26), y_ = (x5_1.drop (x7_2 : Int).toNat) := ⟨_, rfl⟩
          replace H : (if y580.length + y583.length < 8796093022208 then (Ya.l0 k2 l0 a1 (y580 ++ y583) (wrap64 (x6_1 + 1))) else (none)) = some r := by first | (rw [hy583]; with_reducible exact H) | (have H2_ := (Option.bind_some _ _).symm.trans H; rw [hy583]; with_reducible exact H2_) | (have H2_ := (Option.bind_some _ _).symm.trans H; with_reducible exact H2_) | with_reducible exact H | (rw [hy583]; exact H) | exact H
          have Ny583 := Y0.mk hy583
          clear hy583
          obtain ⟨c26, H⟩ := iS H
          have LMc26 := Y0.mk c26
          clear c26
          obtain ⟨y587, hy587⟩ : ∃ y_ : List (S26), y_ = (y580 ++ y583) := ⟨_, rfl⟩
          replace H : (Ya.l0 k2 l0 a1 y587 (wrap64 (x6_1 + 1))) = some r := by first | (rw [hy587]; with_reducible exact H) | (have H2_ := (Option.bind_some _ _).symm.trans H; rw [hy587]; with_reducible exact H2_) | (have H2_ := (Option.bind_some _ _).symm.trans H; with_reducible exact H2_) | with_reducible exact H | (rw [hy587]; exact H) | exact H
          have Ny587 := Y0.mk hy587
          clear hy587
          have H' := Y0.mk H
          clear H
          try go_wp2
          replace HO_5 := Y0.mk (Kd.R_drew HO_5.out)
          replace HB := Y0.mk (Yy HB.out)
          obtain ⟨Ao28, co28, eo28⟩ := Kd.R_slice HO_5.out
          (first | subst eo28 | (injection eo28 with f1_ f2_ f3_; have f4_ := f1_.symm; have f5_ := f3_.symm; clear f1_ f2_ f3_; subst f4_; subst f5_))
          have p567 : 0 ≤ (x7_2 : Int) := of_decide_eq_true (by first | (with_reducible assumption) | assumption)
          have q567 : x7_2 < (x5_1.length : Int) := of_decide_eq_true (by first | (with_reducible assumption) | assumption)
          obtain ⟨d_1, e567, m_r, m_q⟩ := Y1Z (Kd.R_reads' HO_5.out).2.2 x7_2 p567 q567
          cases e567
          replace p567 := eq_true p567
          replace q567 := eq_true q567
          have p568 : 0 ≤ (x6_1 : Int) := of_decide_eq_true (by first | (with_reducible assumption) | assumption)
          have q568 : x6_1 < (l0.length : Int) := of_decide_eq_true (by first | (with_reducible assumption) | assumption)
          obtain ⟨d_2, e568, m_9, m_c, m_7, m_5, m_2, m_3, m_8, m_4, m_0, m_b, m_a, m_1, m_6⟩ := Y1m HR0.out x6_1 p568 q568
          have q_7 := m_6
          have q_c := m_1
          have q_9 := m_a
          have q_8 := m_b
          have q_2 := m_0
          have q_6 := m_4
          have q_1 := m_8
          have q_4 := m_3
          have q_5 := m_2
          have q_b := m_5
          have q_0 := m_7
          have q_3 := m_c
          have q_a := m_9
          obtain rfl : d_0 = d_2 := (by injection e568)
          replace m_9 := hbC HB m_9
          replace m_c := hbC HB m_c
          replace m_7 := hbC HB m_7
          replace m_5 := hbC HB m_5
          replace m_2 := hbC HB m_2
          replace m_3 := hbC HB m_3
          replace m_8 := hbC HB m_8
          replace m_4 := hbC HB m_4
          replace m_0 := hbC HB m_0
          replace m_b := hbC HB m_b
          replace m_a := hbC HB m_a
          replace m_1 := hbC HB m_1
          replace m_6 := hbC HB m_6
          replace p568 := eq_true p568
          replace q568 := eq_true q568
          refine Y1i (n := 16) (S := fun w' => w'.cell? (d_1.add ((x7_2).toNat * 2)) = some (.int .i64 ((Yx x5_1 x7_2).f0)) ∧ w'.cell? ⟨(d_1.add ((x7_2).toNat * 2)).block, (d_1.add ((x7_2).toNat * 2)).off + 1, none⟩ = some (.int .i64 ((Yx x5_1 x7_2).f1)) ∧ w'.cell? (d_0.add ((x6_1).toNat * 13)) = some (.int .i64 ((Y7 l0 x6_1).f0.f0)) ∧ w'.cell? ⟨(d_0.add ((x6_1).toNat * 13)).block, (d_0.add ((x6_1).toNat * 13)).off + 1, none⟩ = some (.int .i64 ((Y7 l0 x6_1).f0.f1)) ∧ w'.cell? ⟨(d_0.add ((x6_1).toNat * 13)).block, (d_0.add ((x6_1).toNat * 13)).off + 2, none⟩ = some (.int .i64 ((Y7 l0 x6_1).f1)) ∧ w'.cell? ⟨(d_0.add ((x6_1).toNat * 13)).block, (d_0.add ((x6_1).toNat * 13)).off + 3, none⟩ = some (.int .i64 ((Y7 l0 x6_1).f2.f0)) ∧ w'.cell? ⟨(d_0.add ((x6_1).toNat * 13)).block, (d_0.add ((x6_1).toNat * 13)).off + 4, none⟩ = some (.int .i64 ((Y7 l0 x6_1).f2.f1)) ∧ w'.cell? ⟨(d_0.add ((x6_1).toNat * 13)).block, (d_0.add ((x6_1).toNat * 13)).off + 5, none⟩ = some (.bool ((Y7 l0 x6_1).f3)) ∧ w'.cell? ⟨(d_0.add ((x6_1).toNat * 13)).block, (d_0.add ((x6_1).toNat * 13)).off + 6, none⟩ = some (.int .i64 ((Y7 l0 x6_1).f4.f0)) ∧ w'.cell? ⟨(d_0.add ((x6_1).toNat * 13)).block, (d_0.add ((x6_1).toNat * 13)).off + 7, none⟩ = some (.int .i64 ((Y7 l0 x6_1).f4.f1)) ∧ w'.cell? ⟨(d_0.add ((x6_1).toNat * 13)).block, (d_0.add ((x6_1).toNat * 13)).off + 8, none⟩ = some (.int .i64 ((Y7 l0 x6_1).f4.f2)) ∧ w'.cell? ⟨(d_0.add ((x6_1).toNat * 13)).block, (d_0.add ((x6_1).toNat * 13)).off + 9, none⟩ = some (.int .i64 ((Y7 l0 x6_1).f4.f3)) ∧ w'.cell? ⟨(d_0.add ((x6_1).toNat * 13)).block, (d_0.add ((x6_1).toNat * 13)).off + 10, none⟩ = some (.int .i64 ((Y7 l0 x6_1).f4.f4)) ∧ w'.cell? ⟨(d_0.add ((x6_1).toNat * 13)).block, (d_0.add ((x6_1).toNat * 13)).off + 11, none⟩ = some (.int .i64 ((Y7 l0 x6_1).f4.f5)) ∧ w'.cell? ⟨(d_0.add ((x6_1).toNat * 13)).block, (d_0.add ((x6_1).toNat * 13)).off + 12, none⟩ = some (.int .i64 ((Y7 l0 x6_1).f4.f6))) (ds := []) #[false, false, false, false, false, false, false, false, false, false, false, false, false, false, false, false] (by kernel_rfl) rfl rfl ⟨m_r, m_q, (hbC HB q_a), (hbC HB q_3), (hbC HB q_0), (hbC HB q_b), (hbC HB q_5), (hbC HB q_4), (hbC HB q_1), (hbC HB q_6), (hbC HB q_2), (hbC HB q_8), (hbC HB q_9), (hbC HB q_c), (hbC HB q_7)⟩ (fun hHeld => ?_); refine Y10 Ya.tab7 Ya.bits7 (fun HT_ HW_ => ?_)
          generalize wr.drew = w27 at HO_5 HB m_r m_q m_9 m_c m_a m_1 m_6 m_7 m_5 m_2 m_3 m_8 m_4 m_0 m_b hHeld ⊢
          refine puA 0 22 (bs 16 1) ?_
          refine puA 1 23 (bs 16 3) ?_
          refine puA 2 24 (bs 16 7) ?_
          refine puA 3 25 (bs 16 15) ?_
          refine puA 4 26 (bs 16 31) ?_
          refine puA 5 27 (bs 16 63) ?_
          refine puA 6 28 (bs 16 127) ?_
          refine puA 7 29 (bs 16 255) ?_
          refine puA 9 31 (bs 16 767) ?_
          refine puA 10 32 (bs 16 1791) ?_
          refine puA 11 33 (bs 16 3839) ?_
          refine puA 12 34 (bs 16 7935) ?_
          refine tkA 8 30 (bs 16 8191) hHeld ?_
          refine tkA 13 35 (bs 16 16383) hHeld ?_
          refine one_ (i := 14) (N := some 36) (bs 16 32767) rfl rfl (YZ HT_.out (by kernel_rfl)) (by decide) (fun K hK => ?_)
          refine goes_ Try.func79 (by kernel_rfl) rfl #[.agg #[.int .i64 ((Yx x5_1 x7_2).f0), .int .i64 ((Yx x5_1 x7_2).f1)], .agg #[.int .i64 ((Y7 l0 x6_1).f2.f0), .int .i64 ((Y7 l0 x6_1).f2.f1)]] (by rfl) rfl rfl (by (try simp only [List.map_toArray, List.map_cons, List.map_nil]); first | done | rfl | (simp only [List.length_drop, List.length_take]; rfl)) ?_
          with_reducible refine (YA.calls ((Yx x5_1 x7_2).f0) ((Yx x5_1 x7_2).f1) ((Y7 l0 x6_1).f2.f0) ((Y7 l0 x6_1).f2.f1) false _ A10.out).mono ?_
          rintro e w29 ⟨rfl, hb⟩
          have HS0_ := (hb.cell (World.block_lt_of_cell? _ _ (hHeld.1))).trans (hHeld.1)
          have HS1_ := (hb.cell (World.block_lt_of_cell? _ _ (hHeld.2.1))).trans (hHeld.2.1)
          refine ⟨_, rfl, ?_⟩
          replace HO_5 := Y0.mk (Kd.R_below (Kd.rU HO_5.out) hb)
          replace HB := Y0.mk (Y4 (hU HB.out) hb)
          (try clear hb)
          (try clear hb2)
          (try clear hk)
          (try clear hi)
          refine hK.out _ _ ⟨HS0_, HS1_, (hbC HB q_a), (hbC HB q_3), (hbC HB q_0), (hbC HB q_b), (hbC HB q_5), (hbC HB q_4), (hbC HB q_1), (hbC HB q_6), (hbC HB q_2), (hbC HB q_8), (hbC HB q_9), (hbC HB q_c), (hbC HB q_7)⟩ (fun hHeld => ?_)
          clear hK K
          refine nmA 36 ?_
          refine puA 15 37 (bs 16 65535) ?_
          refine done_ (Y1h HT_.out (by kernel_rfl)) ?_
          try go_wp2
          replace HO_5 := Y0.mk (Kd.R_drew HO_5.out)
          replace HB := Y0.mk (Yy HB.out)
          have p570 : 0 ≤ (x7_2 : Int) := of_decide_eq_true (by first | (with_reducible assumption) | assumption)
          have q570 : x7_2 < (x5_1.length : Int) := of_decide_eq_true (by first | (with_reducible assumption) | assumption)
          obtain ⟨d_4, e570, m_15, m_16⟩ := Y1Z (Kd.R_reads' HO_5.out).2.2 x7_2 p570 q570
          obtain rfl : d_1 = d_4 := (by injection e570)
          replace p570 := eq_true p570
          replace q570 := eq_true q570
          have p571 : 0 ≤ (x6_1 : Int) := of_decide_eq_true (by first | (with_reducible assumption) | assumption)
          have q571 : x6_1 < (l0.length : Int) := of_decide_eq_true (by first | (with_reducible assumption) | assumption)
          obtain ⟨d_3, e571, m_n, m_f, m_k, m_m, m_h, m_d, m_i, m_p, m_e, m_j, m_o, m_l, m_g⟩ := Y1m HR0.out x6_1 p571 q571
          have q_n := m_g
          have q_h := m_l
          have q_g := m_o
          have q_k := m_j
          have q_i := m_e
          have q_d := m_p
          have q_f := m_i
          have q_p := m_d
          have q_m := m_h
          have q_e := m_m
          have q_l := m_k
          have q_j := m_f
          have q_o := m_n
          obtain rfl : d_0 = d_3 := (by injection e571)
          replace m_n := hbC HB m_n
          replace m_f := hbC HB m_f
          replace m_k := hbC HB m_k
          replace m_m := hbC HB m_m
          replace m_h := hbC HB m_h
          replace m_d := hbC HB m_d
          replace m_i := hbC HB m_i
          replace m_p := hbC HB m_p
          replace m_e := hbC HB m_e
          replace m_j := hbC HB m_j
          replace m_o := hbC HB m_o
          replace m_l := hbC HB m_l
          replace m_g := hbC HB m_g
          replace p571 := eq_true p571
          replace q571 := eq_true q571
          refine Y1i (n := 16) (S := fun w' => w'.cell? (d_1.add ((x7_2).toNat * 2)) = some (.int .i64 ((Yx x5_1 x7_2).f0)) ∧ w'.cell? ⟨(d_1.add ((x7_2).toNat * 2)).block, (d_1.add ((x7_2).toNat * 2)).off + 1, none⟩ = some (.int .i64 ((Yx x5_1 x7_2).f1)) ∧ w'.cell? (d_0.add ((x6_1).toNat * 13)) = some (.int .i64 ((Y7 l0 x6_1).f0.f0)) ∧ w'.cell? ⟨(d_0.add ((x6_1).toNat * 13)).block, (d_0.add ((x6_1).toNat * 13)).off + 1, none⟩ = some (.int .i64 ((Y7 l0 x6_1).f0.f1)) ∧ w'.cell? ⟨(d_0.add ((x6_1).toNat * 13)).block, (d_0.add ((x6_1).toNat * 13)).off + 2, none⟩ = some (.int .i64 ((Y7 l0 x6_1).f1)) ∧ w'.cell? ⟨(d_0.add ((x6_1).toNat * 13)).block, (d_0.add ((x6_1).toNat * 13)).off + 3, none⟩ = some (.int .i64 ((Y7 l0 x6_1).f2.f0)) ∧ w'.cell? ⟨(d_0.add ((x6_1).toNat * 13)).block, (d_0.add ((x6_1).toNat * 13)).off + 4, none⟩ = some (.int .i64 ((Y7 l0 x6_1).f2.f1)) ∧ w'.cell? ⟨(d_0.add ((x6_1).toNat * 13)).block, (d_0.add ((x6_1).toNat * 13)).off + 5, none⟩ = some (.bool ((Y7 l0 x6_1).f3)) ∧ w'.cell? ⟨(d_0.add ((x6_1).toNat * 13)).block, (d_0.add ((x6_1).toNat * 13)).off + 6, none⟩ = some (.int .i64 ((Y7 l0 x6_1).f4.f0)) ∧ w'.cell? ⟨(d_0.add ((x6_1).toNat * 13)).block, (d_0.add ((x6_1).toNat * 13)).off + 7, none⟩ = some (.int .i64 ((Y7 l0 x6_1).f4.f1)) ∧ w'.cell? ⟨(d_0.add ((x6_1).toNat * 13)).block, (d_0.add ((x6_1).toNat * 13)).off + 8, none⟩ = some (.int .i64 ((Y7 l0 x6_1).f4.f2)) ∧ w'.cell? ⟨(d_0.add ((x6_1).toNat * 13)).block, (d_0.add ((x6_1).toNat * 13)).off + 9, none⟩ = some (.int .i64 ((Y7 l0 x6_1).f4.f3)) ∧ w'.cell? ⟨(d_0.add ((x6_1).toNat * 13)).block, (d_0.add ((x6_1).toNat * 13)).off + 10, none⟩ = some (.int .i64 ((Y7 l0 x6_1).f4.f4)) ∧ w'.cell? ⟨(d_0.add ((x6_1).toNat * 13)).block, (d_0.add ((x6_1).toNat * 13)).off + 11, none⟩ = some (.int .i64 ((Y7 l0 x6_1).f4.f5)) ∧ w'.cell? ⟨(d_0.add ((x6_1).toNat * 13)).block, (d_0.add ((x6_1).toNat * 13)).off + 12, none⟩ = some (.int .i64 ((Y7 l0 x6_1).f4.f6))) (ds := []) #[false, false, false, false, false, false, false, false, false, false, false, false, false, false, false, false] (by kernel_rfl) rfl rfl ⟨m_15, m_16, (hbC HB q_o), (hbC HB q_j), (hbC HB q_l), (hbC HB q_e), (hbC HB q_m), (hbC HB q_p), (hbC HB q_f), (hbC HB q_d), (hbC HB q_i), (hbC HB q_k), (hbC HB q_g), (hbC HB q_h), (hbC HB q_n)⟩ (fun hHeld => ?_); refine Y10 Ya.tab9 Ya.bits9 (fun HT_ HW_ => ?_)
          generalize w29.drew = w30 at HO_5 HB m_15 m_16 m_n m_f m_o m_l m_g m_k m_m m_h m_d m_i m_p m_e m_j hHeld ⊢
          refine puA 0 40 (bs 16 1) ?_
          refine puA 1 41 (bs 16 3) ?_
          refine puA 2 42 (bs 16 7) ?_
          refine puA 3 43 (bs 16 15) ?_
          refine puA 4 44 (bs 16 31) ?_
          refine puA 5 45 (bs 16 63) ?_
          refine puA 6 46 (bs 16 127) ?_
          refine puA 7 47 (bs 16 255) ?_
          refine puA 9 49 (bs 16 767) ?_
          refine puA 10 50 (bs 16 1791) ?_
          refine puA 11 51 (bs 16 3839) ?_
          refine puA 12 52 (bs 16 7935) ?_
          refine tkA 8 48 (bs 16 8191) hHeld ?_
          refine tkA 13 53 (bs 16 16383) hHeld ?_
          refine puA 14 54 (bs 16 32767) ?_
          refine puA 15 55 (bs 16 65535) ?_
          refine done_ (Y1h HT_.out (by kernel_rfl)) ?_
          have q31 : (x7_2 : Int) ≤ ((x5_1.length : Int) : Int) := of_decide_eq_true (by first | (with_reducible assumption) | assumption)
          obtain ⟨i031, hi031, _, hsz31, _⟩ := info_parts Y1M
          have hroom31 : x5_1.length ≤ co28 := (Kd.R_reads' HO_5.out).2.1
          have hC31 : Kd.C k26 _ (some d_1) x5_1.length x5_1 := (Kd.R_reads' HO_5.out).2.2
          have hcut31 := Y4v (P := Try.prog) 39 26 .i64 Try.underlying39 hi031 (some d_1) x5_1.length co28 x7_2 (of_decide_eq_true (by first | (with_reducible assumption) | assumption)) q31 hroom31
          have hr31 := Kd.C_take (m := (x7_2 : Int).toNat) hC31 (by omega)
          have hy31 : y572.length = (x7_2 : Int).toNat := (by rw [Ny572.out, List.length_take]; omega)
          rw [← Ny572.out] at hr31
          rw [← hy31] at hcut31
          have HR575 := Y0.mk hr31
          have HC575 := Y0.mk (show y572.length ≤ co28 from by omega)
          clear hr31 hC31 hroom31 hi031 hsz31
          have KY31 := Y0.mk hy31
          clear hy31
          have KL31 := Y0.mk (show (x7_2 : Int).toNat ≤ x5_1.length from by omega)
          replace q31 := eq_true q31
          try go_wp2_with (first | ((with_reducible refine Y13 (b := .append) (xs := #[.tmp 56, .tmp 59]) rfl ?_); at_builtin; refine Kd.R_append_rows k26 (w0 := w) w.heap.size rfl (.tmp 56) (.tmp 59) 39 26 (.agg #[(.int .i64 0), (.int .i64 0)]) 16 rfl Try.underlying39 Y1M rfl (by decide) (by omega) (.slice none 0 0) ([] : List (S26)) y572 _ _ _ (fun k_ => some k_ ≠ (.slice (some d_1) x5_1.length co28 : Value).ownBlock) (fun _ => False) rfl rfl ?aO ?aR (fun _ _ h => h) (fun _ h => h.elim) ?aF ?aB ?aS ?aL ?_; (case aR => repeat (first | exact (by repeat (first | (with_reducible exact HR575.out) | (with_reducible refine Kd.C_alloc ?_ _) | (with_reducible refine Kd.C_drewN ?_ _) | (with_reducible refine Kd.C_drew ?_) | exact HR575.out)) | (with_reducible refine Kd.C_alloc ?_ _) | (with_reducible refine Kd.C_drewN ?_ _) | (with_reducible refine Kd.C_drew ?_))); (case aB => exact (hU HB.out)); (case aF => exact (fun k_ hk => Kd.fresh' (Kd.R_lt (Kd.rU HO_5.out)) k_ hk)); (case aO => exact ((Kd.R_nil _ _ _ _ (fun k_ => some k_ ≠ (.slice (some d_1) x5_1.length co28 : Value).ownBlock)))); (case aS => exact (Yn (hU HB.out))); (case aL => have := LMc22.out; omega); intro v_3 w32 ho hb hg hat; rw [← Ny576.out] at ho; have n0_ := Y0.mk (Kd.R_after (Kd.R_apart_nil (Kd.rU HO_5.out)) hg hat); have n1_ := Y0.mk (hb); have n2_ := Y0.mk ((show Kd.C k26 w32 (some d_1) y572.length y572 from by rw [Ny572.out]; exact Kd.C_take (m := (x7_2 : Int).toNat) ((Kd.R_reads' (Kd.R_after (Kd.R_apart_nil (Kd.rU HO_5.out)) hg hat)).2.2) KL31.out)); have n3_ := Y0.mk (ho); clear HO_5; clear HB; clear HR575; have HO_5 := n0_; have HB := n1_; have HR575 := n2_; have O_0 := n3_; clear n0_ n1_ n2_ n3_; clear ho hb hg hat; have p579 : 0 ≤ (x6_1 : Int) := of_decide_eq_true (by first | (with_reducible assumption) | assumption); have q579 : x6_1 < (l0.length : Int) := of_decide_eq_true (by first | (with_reducible assumption) | assumption); obtain ⟨d_5, e579, m_1h, m_1c, m_1b, m_1a, m_1t, m_1n, m_1q, m_1d, m_1f, m_1r, m_1j, m_1v, m_1o⟩ := Y1m HR0.out x6_1 p579 q579; obtain rfl : d_0 = d_5 := (by injection e579); replace m_1h := hbC HB m_1h; replace m_1c := hbC HB m_1c; replace m_1b := hbC HB m_1b; replace m_1a := hbC HB m_1a; replace m_1t := hbC HB m_1t; replace m_1n := hbC HB m_1n; replace m_1q := hbC HB m_1q; replace m_1d := hbC HB m_1d; replace m_1f := hbC HB m_1f; replace m_1r := hbC HB m_1r; replace m_1j := hbC HB m_1j; replace m_1v := hbC HB m_1v; replace m_1o := hbC HB m_1o; replace p579 := eq_true p579; replace q579 := eq_true q579) | ((with_reducible refine Y13 (b := .append) (xs := #[.tmp 61, .tmp 67]) rfl ?_); at_builtin; refine Kd.R_append k26 (w0 := w) w.heap.size rfl (.tmp 61) (.tmp 67) 39 26 (.agg #[(.int .i64 0), (.int .i64 0)]) 16 rfl Try.underlying39 Y1M rfl (by decide) (by omega) v_3 y576 (⟨(Y7 l0 x6_1).f2.f0, (Y7 l0 x6_1).f2.f1⟩ : S26) [.int .i64 ((Y7 l0 x6_1).f2.f0), .int .i64 ((Y7 l0 x6_1).f2.f1)] (fun k_ => some k_ ≠ (.slice (some d_1) x5_1.length co28 : Value).ownBlock) (fun _ => False) rfl rfl ?aP (fun _ hk => hk.elim) ?aF ?aO ?aB ?aS ?aL ?_; (case aP => exact Y1Q _ _ _ (⟨(Y7 l0 x6_1).f2.f0, (Y7 l0 x6_1).f2.f1⟩ : S26)); (case aB => exact (hU HB.out)); (case aF => exact (fun k_ hk => Kd.fresh' (Kd.R_lt (Kd.rU HO_5.out)) k_ hk)); (case aO => exact (Kd.rU O_0.out)); (case aS => exact (Yn (hU HB.out))); (case aL => have := LMc23.out; omega); intro v_0 w33 ho hb hg hat; rw [← Ny580.out] at ho; have n0_ := Y0.mk (Kd.R_after (ok := (fun _ => True)) (Kd.rU HO_5.out) hg hat); have n1_ := Y0.mk (hb); have n2_ := Y0.mk ((show Kd.C k26 w33 (some d_1) y572.length y572 from by rw [Ny572.out]; exact Kd.C_take (m := (x7_2 : Int).toNat) ((Kd.R_reads' (Kd.R_after (ok := (fun _ => True)) (Kd.rU HO_5.out) hg hat)).2.2) KL31.out)); have n3_ := Y0.mk (ho); clear HO_5; clear HB; clear HR575; clear O_0; have HO_5 := n0_; have HB := n1_; have HR575 := n2_; have O_1 := n3_; clear n0_ n1_ n2_ n3_; clear ho hb hg hat; have q34 : (x7_2 : Int) ≤ ((x5_1.length : Int) : Int) := of_decide_eq_true (by first | (with_reducible assumption) | assumption); obtain ⟨i034, hi034, _, hsz34, _⟩ := info_parts Y1M; have hroom34 : x5_1.length ≤ co28 := (Kd.R_reads' HO_5.out).2.1; have hC34 : Kd.C k26 _ (some d_1) x5_1.length x5_1 := (Kd.R_reads' HO_5.out).2.2; have q034 : (0 : Int) ≤ (x7_2 : Int) := of_decide_eq_true (by first | (with_reducible assumption) | assumption); have hcut34 := Y3Z (P := Try.prog) 39 26 .i64 Try.underlying39 hi034 2 hsz34 (some d_1) x5_1.length co28 x7_2 q034 q34; have hr34 := Kd.C_drop (m := (x7_2 : Int).toNat) (c := co28) hC34 (by omega) hroom34; obtain ⟨A34, hA34⟩ : ∃ A1, A1 = (if co28 = (x7_2 : Int).toNat then (some d_1) else ((some d_1) : Option Addr).map (·.add ((x7_2 : Int).toNat * 2))) := ⟨_, rfl⟩; obtain ⟨c34, hc34⟩ : ∃ c1, c1 = co28 - (x7_2 : Int).toNat := ⟨_, rfl⟩; have hy34 : y583.length = x5_1.length - (x7_2 : Int).toNat := (by rw [Ny583.out, List.length_drop] <;> omega); rw [show (x5_1).drop (x7_2 : Int).toNat = y583 from Ny583.out.symm] at hr34; replace hr34 : Kd.C k26 _ A34 y583.length y583 := (by rw [hA34]; exact hr34); rw [← hy34, ← hA34, ← hc34] at hcut34; have HR586 := Y0.mk hr34; have HC586 := Y0.mk (show y583.length ≤ c34 from by rw [hy34, hc34]; exact Nat.sub_le_sub_right hroom34 _); clear hr34 hC34 hroom34 hi034 hsz34 hc34; have KY34 := Y0.mk hy34; have KA34 := Y0.mk hA34; clear hy34 hA34; have KL34 := Y0.mk (show (x7_2 : Int).toNat ≤ x5_1.length from by omega); replace q34 := eq_true q34) | ((with_reducible refine Y13 (b := .append) (xs := #[.tmp 69, .tmp 72]) rfl ?_); at_builtin; refine Kd.R_append_rows k26 (w0 := w) w.heap.size rfl (.tmp 69) (.tmp 72) 39 26 (.agg #[(.int .i64 0), (.int .i64 0)]) 16 rfl Try.underlying39 Y1M rfl (by decide) (by omega) v_0 y580 y583 _ _ _ (fun k_ => some k_ ≠ (.slice (some d_1) x5_1.length co28 : Value).ownBlock) (fun _ => False) rfl rfl ?aO ?aR (fun _ _ h => h) (fun _ h => h.elim) ?aF ?aB ?aS ?aL ?_; (case aR => repeat (first | exact (by repeat (first | (with_reducible exact HR586.out) | (with_reducible refine Kd.C_alloc ?_ _) | (with_reducible refine Kd.C_drewN ?_ _) | (with_reducible refine Kd.C_drew ?_) | exact HR586.out)) | (with_reducible refine Kd.C_alloc ?_ _) | (with_reducible refine Kd.C_drewN ?_ _) | (with_reducible refine Kd.C_drew ?_))); (case aB => exact (hU HB.out)); (case aF => exact (fun k_ hk => Kd.fresh' (Kd.R_lt (Kd.rU HO_5.out)) k_ hk)); (case aO => exact (Kd.rU O_1.out)); (case aS => exact (Yn (hU HB.out))); (case aL => have := LMc26.out; omega); intro v_5 w35 ho hb hg hat; rw [← Ny587.out] at ho; have n0_ := Y0.mk (Kd.R_after (ok := (fun _ => True)) (Kd.rU HO_5.out) hg hat); have n1_ := Y0.mk (hb); have n2_ := Y0.mk ((show Kd.C k26 w35 (some d_1) y572.length y572 from by rw [Ny572.out]; exact Kd.C_take (m := (x7_2 : Int).toNat) ((Kd.R_reads' (Kd.R_after (ok := (fun _ => True)) (Kd.rU HO_5.out) hg hat)).2.2) KL31.out)); have n3_ := Y0.mk ((show Kd.C k26 w35 A34 y583.length y583 from by rw [Ny583.out, KA34.out]; exact Kd.C_drop (m := (x7_2 : Int).toNat) (c := co28) ((Kd.R_reads' (Kd.R_after (ok := (fun _ => True)) (Kd.rU HO_5.out) hg hat)).2.2) KL34.out ((Kd.R_reads' (Kd.R_after (ok := (fun _ => True)) (Kd.rU HO_5.out) hg hat)).2.1))); have n4_ := Y0.mk (ho); clear HO_5; clear HB; clear HR575; clear HR586; clear O_1; have HO_5 := n0_; have HB := n1_; have HR575 := n2_; have HR586 := n3_; have O_4 := n4_; clear n0_ n1_ n2_ n3_ n4_; clear ho hb hg hat))
          go_roundg k2
          case measure => have := HK1.out; have := HK2.out; omega
          case rel => exact ⟨(y587), (wrap64 (x6_1 + 1)), reS, H', ⟨by have := HK1.out; have := HK2.out; omega⟩, ⟨by (with_reducible repeat (first | apply Kd.R_alloc | apply Kd.R_drewN | apply Kd.R_drew)); exact Kd.R_mono O_4.out (fun _ hk => trivial)⟩, ⟨hU HB.out⟩⟩
       ·rw [if_neg c6] at H
        have c6b0 := decide_eq_false c6
        clear c6
        obtain ⟨c36, H⟩ := iS H
        have c36b0 := eq_true c36
        have c36b1 := decide_eq_true c36
        clear c36
        obtain ⟨c37, H⟩ := iS H
        have c37b0 := eq_true c37
        have c37b1 := decide_eq_true c37
        clear c37
        obtain ⟨y590, hy590⟩ : ∃ y_ : List (S26), y_ = (x5_1.take (x7_2 : Int).toNat) := ⟨_, rfl⟩
        replace H : (if ([] : List (S26)).length + y590.length < 8796093022208 then ((some (([] : List (S26)) ++ y590 : List (S26))).bind fun y594 => (if 0 ≤ x6_1 then (if x6_1 < (l0.length : Int) then (if y594.length < 8796093022208 then ((some (y594 ++ [(⟨(Y7 l0 x6_1).f2.f0, (Y7 l0 x6_1).f2.f1⟩ : S26)] : List (S26))).bind fun y598 => ((some (x5_1.drop (x7_2 : Int).toNat : List (S26))).bind fun y601 => (if y598.length + y601.length < 8796093022208 then (Ya.l0 k2 l0 a1 (y598 ++ y601) (wrap64 (x6_1 + 1))) else (none)))) else (none)) else (none)) else (none))) else (none)) = some r := by first | (rw [hy590]; with_reducible exact H) | (have H2_ := (Option.bind_some _ _).symm.trans H; rw [hy590]; with_reducible exact H2_) | (have H2_ := (Option.bind_some _ _).symm.trans H; with_reducible exact H2_) | with_reducible exact H | (rw [hy590]; exact H) | exact H
        have Ny590 := Y0.mk hy590
        clear hy590
        obtain ⟨c38, H⟩ := iS H
        have LMc38 := Y0.mk c38
        clear c38
        obtain ⟨y594, hy594⟩ : ∃ y_ : List (S26), y_ = (([] : List (S26)) ++ y590) := ⟨_, rfl⟩
        replace H : (if 0 ≤ x6_1 then (if x6_1 < (l0.length : Int) then (if y594.length < 8796093022208 then ((some (y594 ++ [(⟨(Y7 l0 x6_1).f2.f0, (Y7 l0 x6_1).f2.f1⟩ : S26)] : List (S26))).bind fun y598 => ((some (x5_1.drop (x7_2 : Int).toNat : List (S26))).bind fun y601 => (if y598.length + y601.length < 8796093022208 then (Ya.l0 k2 l0 a1 (y598 ++ y601) (wrap64 (x6_1 + 1))) else (none)))) else (none)) else (none)) else (none)) = some r := by first | (rw [hy594]; with_reducible exact H) | (have H2_ := (Option.bind_some _ _).symm.trans H; rw [hy594]; with_reducible exact H2_) | (have H2_ := (Option.bind_some _ _).symm.trans H; with_reducible exact H2_) | with_reducible exact H | (rw [hy594]; exact H) | exact H
        have Ny594 := Y0.mk hy594
        clear hy594
        obtain ⟨c39, H⟩ := iS H
        have c39b0 := decide_eq_true c39
        clear c39
        obtain ⟨c40, H⟩ := iS H
        have c40b0 := decide_eq_true c40
        clear c40
        obtain ⟨c41, H⟩ := iS H
        have LMc41 := Y0.mk c41
        clear c41
        obtain ⟨y598, hy598⟩ : ∃ y_ : List (S26), y_ = (y594 ++ [(⟨(Y7 l0 x6_1).f2.f0, (Y7 l0 x6_1).f2.f1⟩ : S26)]) := ⟨_, rfl⟩
        replace H : ((some (x5_1.drop (x7_2 : Int).toNat : List (S26))).bind fun y601 => (if y598.length + y601.length < 8796093022208 then (Ya.l0 k2 l0 a1 (y598 ++ y601) (wrap64 (x6_1 + 1))) else (none))) = some r := by first | (rw [hy598]; with_reducible exact H) | (have H2_ := (Option.bind_some _ _).symm.trans H; rw [hy598]; with_reducible exact H2_) | (have H2_ := (Option.bind_some _ _).symm.trans H; with_reducible exact H2_) | with_reducible exact H | (rw [hy598]; exact H) | exact H
        have Ny598 := Y0.mk hy598
        clear hy598
        have c42b0 := eq_true (of_decide_eq_true (by first | (with_reducible assumption) | assumption) : 0 ≤ x7_2)
        have c43b0 := eq_true (of_decide_eq_true (by first | (with_reducible assumption) | assumption) : x7_2 ≤ (x5_1.length : Int))
        obtain ⟨y601, hy601⟩ : ∃ y_ : List (S26), y_ = (x5_1.drop (x7_2 : Int).toNat) := ⟨_, rfl⟩
        replace H : (if y598.length + y601.length < 8796093022208 then (Ya.l0 k2 l0 a1 (y598 ++ y601) (wrap64 (x6_1 + 1))) else (none)) = some r := by first | (rw [hy601]; with_reducible exact H) | (have H2_ := (Option.bind_some _ _).symm.trans H; rw [hy601]; with_reducible exact H2_) | (have H2_ := (Option.bind_some _ _).symm.trans H; with_reducible exact H2_) | with_reducible exact H | (rw [hy601]; exact H) | exact H
        have Ny601 := Y0.mk hy601
        clear hy601
        obtain ⟨c44, H⟩ := iS H
        have LMc44 := Y0.mk c44
        clear c44
        obtain ⟨y605, hy605⟩ : ∃ y_ : List (S26), y_ = (y598 ++ y601) := ⟨_, rfl⟩
        replace H : (Ya.l0 k2 l0 a1 y605 (wrap64 (x6_1 + 1))) = some r := by first | (rw [hy605]; with_reducible exact H) | (have H2_ := (Option.bind_some _ _).symm.trans H; rw [hy605]; with_reducible exact H2_) | (have H2_ := (Option.bind_some _ _).symm.trans H; with_reducible exact H2_) | with_reducible exact H | (rw [hy605]; exact H) | exact H
        have Ny605 := Y0.mk hy605
        clear hy605
        have H' := Y0.mk H
        clear H
        try go_wp2
        replace HO_5 := Y0.mk (Kd.R_drew HO_5.out)
        replace HB := Y0.mk (Yy HB.out)
        obtain ⟨Ao46, co46, eo46⟩ := Kd.R_slice HO_5.out
        (first | subst eo46 | (injection eo46 with f1_ f2_ f3_; have f4_ := f1_.symm; have f5_ := f3_.symm; clear f1_ f2_ f3_; subst f4_; subst f5_))
        refine Y1i (n := 16) (S := fun w' => True) (ds := []) #[false, false, false, false, false, false, false, false, false, false, false, false, false, false, false, false] (by kernel_rfl) rfl rfl trivial (fun hHeld => ?_); refine Y10 Ya.tab7 Ya.bits7 (fun HT_ HW_ => ?_)
        generalize wr.drew = w45 at HO_5 HB hHeld ⊢
        refine puA 0 22 (bs 16 1) ?_
        refine puA 1 23 (bs 16 3) ?_
        refine puA 2 24 (bs 16 7) ?_
        refine puA 3 25 (bs 16 15) ?_
        refine puA 4 26 (bs 16 31) ?_
        refine skA 5 27 (bs 16 63) ?_
        refine skA 6 28 (bs 16 127) ?_
        refine skA 7 29 (bs 16 255) ?_
        refine skA 8 30 (bs 16 511) ?_
        refine skA 9 31 (bs 16 1023) ?_
        refine skA 10 32 (bs 16 2047) ?_
        refine skA 11 33 (bs 16 4095) ?_
        refine skA 12 34 (bs 16 8191) ?_
        refine skA 13 35 (bs 16 16383) ?_
        refine skA 14 36 (bs 16 32767) ?_
        refine puA 15 37 (bs 16 65535) ?_
        refine done_ (Y1h HT_.out (by kernel_rfl)) ?_
        try go_wp2
        replace HO_5 := Y0.mk (Kd.R_drew HO_5.out)
        replace HB := Y0.mk (Yy HB.out)
        refine Y1i (n := 16) (S := fun w' => True) (ds := []) #[false, false, false, false, false, false, false, false, false, false, false, false, false, false, false, false] (by kernel_rfl) rfl rfl trivial (fun hHeld => ?_); refine Y10 Ya.tab9 Ya.bits9 (fun HT_ HW_ => ?_)
        generalize w45.drew = w47 at HO_5 HB hHeld ⊢
        refine puA 0 40 (bs 16 1) ?_
        refine puA 1 41 (bs 16 3) ?_
        refine puA 2 42 (bs 16 7) ?_
        refine puA 3 43 (bs 16 15) ?_
        refine puA 4 44 (bs 16 31) ?_
        refine skA 5 45 (bs 16 63) ?_
        refine skA 6 46 (bs 16 127) ?_
        refine skA 7 47 (bs 16 255) ?_
        refine skA 8 48 (bs 16 511) ?_
        refine skA 9 49 (bs 16 1023) ?_
        refine skA 10 50 (bs 16 2047) ?_
        refine skA 11 51 (bs 16 4095) ?_
        refine skA 12 52 (bs 16 8191) ?_
        refine skA 13 53 (bs 16 16383) ?_
        refine skA 14 54 (bs 16 32767) ?_
        refine puA 15 55 (bs 16 65535) ?_
        refine done_ (Y1h HT_.out (by kernel_rfl)) ?_
        have q48 : (x7_2 : Int) ≤ ((x5_1.length : Int) : Int) := of_decide_eq_true (by first | (with_reducible assumption) | assumption)
        obtain ⟨i048, hi048, _, hsz48, _⟩ := info_parts Y1M
        have hroom48 : x5_1.length ≤ co46 := (Kd.R_reads' HO_5.out).2.1
        have hC48 : Kd.C k26 _ Ao46 x5_1.length x5_1 := (Kd.R_reads' HO_5.out).2.2
        have hcut48 := Y4v (P := Try.prog) 39 26 .i64 Try.underlying39 hi048 Ao46 x5_1.length co46 x7_2 (of_decide_eq_true (by first | (with_reducible assumption) | assumption)) q48 hroom48
        have hr48 := Kd.C_take (m := (x7_2 : Int).toNat) hC48 (by omega)
        have hy48 : y590.length = (x7_2 : Int).toNat := (by rw [Ny590.out, List.length_take]; omega)
        rw [← Ny590.out] at hr48
        rw [← hy48] at hcut48
        have HR593 := Y0.mk hr48
        have HC593 := Y0.mk (show y590.length ≤ co46 from by omega)
        clear hr48 hC48 hroom48 hi048 hsz48
        have KY48 := Y0.mk hy48
        clear hy48
        have KL48 := Y0.mk (show (x7_2 : Int).toNat ≤ x5_1.length from by omega)
        replace q48 := eq_true q48
        try go_wp2_with (first | ((with_reducible refine Y13 (b := .append) (xs := #[.tmp 56, .tmp 59]) rfl ?_); at_builtin; refine Kd.R_append_rows k26 (w0 := w) w.heap.size rfl (.tmp 56) (.tmp 59) 39 26 (.agg #[(.int .i64 0), (.int .i64 0)]) 16 rfl Try.underlying39 Y1M rfl (by decide) (by omega) (.slice none 0 0) ([] : List (S26)) y590 _ _ _ (fun k_ => some k_ ≠ (.slice Ao46 x5_1.length co46 : Value).ownBlock) (fun _ => False) rfl rfl ?aO ?aR (fun _ _ h => h) (fun _ h => h.elim) ?aF ?aB ?aS ?aL ?_; (case aR => repeat (first | exact (by repeat (first | (with_reducible exact HR593.out) | (with_reducible refine Kd.C_alloc ?_ _) | (with_reducible refine Kd.C_drewN ?_ _) | (with_reducible refine Kd.C_drew ?_) | exact HR593.out)) | (with_reducible refine Kd.C_alloc ?_ _) | (with_reducible refine Kd.C_drewN ?_ _) | (with_reducible refine Kd.C_drew ?_))); (case aB => exact (hU HB.out)); (case aF => exact (fun k_ hk => Kd.fresh' (Kd.R_lt (Kd.rU HO_5.out)) k_ hk)); (case aO => exact ((Kd.R_nil _ _ _ _ (fun k_ => some k_ ≠ (.slice Ao46 x5_1.length co46 : Value).ownBlock)))); (case aS => exact (Yn (hU HB.out))); (case aL => have := LMc38.out; omega); intro v_1 w49 ho hb hg hat; rw [← Ny594.out] at ho; have n0_ := Y0.mk (Kd.R_after (Kd.R_apart_nil (Kd.rU HO_5.out)) hg hat); have n1_ := Y0.mk (hb); have n2_ := Y0.mk ((show Kd.C k26 w49 Ao46 y590.length y590 from by rw [Ny590.out]; exact Kd.C_take (m := (x7_2 : Int).toNat) ((Kd.R_reads' (Kd.R_after (Kd.R_apart_nil (Kd.rU HO_5.out)) hg hat)).2.2) KL48.out)); have n3_ := Y0.mk (ho); clear HO_5; clear HB; clear HR593; have HO_5 := n0_; have HB := n1_; have HR593 := n2_; have O_2 := n3_; clear n0_ n1_ n2_ n3_; clear ho hb hg hat; have p597 : 0 ≤ (x6_1 : Int) := of_decide_eq_true (by first | (with_reducible assumption) | assumption); have q597 : x6_1 < (l0.length : Int) := of_decide_eq_true (by first | (with_reducible assumption) | assumption); obtain ⟨d_6, e597, m_18, m_1i, m_1m, m_1p, m_1u, m_1l, m_1e, m_1w, m_19, m_17, m_1g, m_1s, m_1k⟩ := Y1m HR0.out x6_1 p597 q597; obtain rfl : d_0 = d_6 := (by injection e597); replace m_18 := hbC HB m_18; replace m_1i := hbC HB m_1i; replace m_1m := hbC HB m_1m; replace m_1p := hbC HB m_1p; replace m_1u := hbC HB m_1u; replace m_1l := hbC HB m_1l; replace m_1e := hbC HB m_1e; replace m_1w := hbC HB m_1w; replace m_19 := hbC HB m_19; replace m_17 := hbC HB m_17; replace m_1g := hbC HB m_1g; replace m_1s := hbC HB m_1s; replace m_1k := hbC HB m_1k; replace p597 := eq_true p597; replace q597 := eq_true q597) | ((with_reducible refine Y13 (b := .append) (xs := #[.tmp 61, .tmp 67]) rfl ?_); at_builtin; refine Kd.R_append k26 (w0 := w) w.heap.size rfl (.tmp 61) (.tmp 67) 39 26 (.agg #[(.int .i64 0), (.int .i64 0)]) 16 rfl Try.underlying39 Y1M rfl (by decide) (by omega) v_1 y594 (⟨(Y7 l0 x6_1).f2.f0, (Y7 l0 x6_1).f2.f1⟩ : S26) [.int .i64 ((Y7 l0 x6_1).f2.f0), .int .i64 ((Y7 l0 x6_1).f2.f1)] (fun k_ => some k_ ≠ (.slice Ao46 x5_1.length co46 : Value).ownBlock) (fun _ => False) rfl rfl ?aP (fun _ hk => hk.elim) ?aF ?aO ?aB ?aS ?aL ?_; (case aP => exact Y1Q _ _ _ (⟨(Y7 l0 x6_1).f2.f0, (Y7 l0 x6_1).f2.f1⟩ : S26)); (case aB => exact (hU HB.out)); (case aF => exact (fun k_ hk => Kd.fresh' (Kd.R_lt (Kd.rU HO_5.out)) k_ hk)); (case aO => exact (Kd.rU O_2.out)); (case aS => exact (Yn (hU HB.out))); (case aL => have := LMc41.out; omega); intro v_2 w50 ho hb hg hat; rw [← Ny598.out] at ho; have n0_ := Y0.mk (Kd.R_after (ok := (fun _ => True)) (Kd.rU HO_5.out) hg hat); have n1_ := Y0.mk (hb); have n2_ := Y0.mk ((show Kd.C k26 w50 Ao46 y590.length y590 from by rw [Ny590.out]; exact Kd.C_take (m := (x7_2 : Int).toNat) ((Kd.R_reads' (Kd.R_after (ok := (fun _ => True)) (Kd.rU HO_5.out) hg hat)).2.2) KL48.out)); have n3_ := Y0.mk (ho); clear HO_5; clear HB; clear HR593; clear O_2; have HO_5 := n0_; have HB := n1_; have HR593 := n2_; have O_3 := n3_; clear n0_ n1_ n2_ n3_; clear ho hb hg hat; have q51 : (x7_2 : Int) ≤ ((x5_1.length : Int) : Int) := of_decide_eq_true (by first | (with_reducible assumption) | assumption); obtain ⟨i051, hi051, _, hsz51, _⟩ := info_parts Y1M; have hroom51 : x5_1.length ≤ co46 := (Kd.R_reads' HO_5.out).2.1; have hC51 : Kd.C k26 _ Ao46 x5_1.length x5_1 := (Kd.R_reads' HO_5.out).2.2; have q051 : (0 : Int) ≤ (x7_2 : Int) := of_decide_eq_true (by first | (with_reducible assumption) | assumption); have hcut51 := Y3Z (P := Try.prog) 39 26 .i64 Try.underlying39 hi051 2 hsz51 Ao46 x5_1.length co46 x7_2 q051 q51; have hr51 := Kd.C_drop (m := (x7_2 : Int).toNat) (c := co46) hC51 (by omega) hroom51; obtain ⟨A51, hA51⟩ : ∃ A1, A1 = (if co46 = (x7_2 : Int).toNat then Ao46 else (Ao46 : Option Addr).map (·.add ((x7_2 : Int).toNat * 2))) := ⟨_, rfl⟩; obtain ⟨c51, hc51⟩ : ∃ c1, c1 = co46 - (x7_2 : Int).toNat := ⟨_, rfl⟩; have hy51 : y601.length = x5_1.length - (x7_2 : Int).toNat := (by rw [Ny601.out, List.length_drop] <;> omega); rw [show (x5_1).drop (x7_2 : Int).toNat = y601 from Ny601.out.symm] at hr51; replace hr51 : Kd.C k26 _ A51 y601.length y601 := (by rw [hA51]; exact hr51); rw [← hy51, ← hA51, ← hc51] at hcut51; have HR604 := Y0.mk hr51; have HC604 := Y0.mk (show y601.length ≤ c51 from by rw [hy51, hc51]; exact Nat.sub_le_sub_right hroom51 _); clear hr51 hC51 hroom51 hi051 hsz51 hc51; have KY51 := Y0.mk hy51; have KA51 := Y0.mk hA51; clear hy51 hA51; have KL51 := Y0.mk (show (x7_2 : Int).toNat ≤ x5_1.length from by omega); replace q51 := eq_true q51) | ((with_reducible refine Y13 (b := .append) (xs := #[.tmp 69, .tmp 72]) rfl ?_); at_builtin; refine Kd.R_append_rows k26 (w0 := w) w.heap.size rfl (.tmp 69) (.tmp 72) 39 26 (.agg #[(.int .i64 0), (.int .i64 0)]) 16 rfl Try.underlying39 Y1M rfl (by decide) (by omega) v_2 y598 y601 _ _ _ (fun k_ => some k_ ≠ (.slice Ao46 x5_1.length co46 : Value).ownBlock) (fun _ => False) rfl rfl ?aO ?aR (fun _ _ h => h) (fun _ h => h.elim) ?aF ?aB ?aS ?aL ?_; (case aR => repeat (first | exact (by repeat (first | (with_reducible exact HR604.out) | (with_reducible refine Kd.C_alloc ?_ _) | (with_reducible refine Kd.C_drewN ?_ _) | (with_reducible refine Kd.C_drew ?_) | exact HR604.out)) | (with_reducible refine Kd.C_alloc ?_ _) | (with_reducible refine Kd.C_drewN ?_ _) | (with_reducible refine Kd.C_drew ?_))); (case aB => exact (hU HB.out)); (case aF => exact (fun k_ hk => Kd.fresh' (Kd.R_lt (Kd.rU HO_5.out)) k_ hk)); (case aO => exact (Kd.rU O_3.out)); (case aS => exact (Yn (hU HB.out))); (case aL => have := LMc44.out; omega); intro v_4 w52 ho hb hg hat; rw [← Ny605.out] at ho; have n0_ := Y0.mk (Kd.R_after (ok := (fun _ => True)) (Kd.rU HO_5.out) hg hat); have n1_ := Y0.mk (hb); have n2_ := Y0.mk ((show Kd.C k26 w52 Ao46 y590.length y590 from by rw [Ny590.out]; exact Kd.C_take (m := (x7_2 : Int).toNat) ((Kd.R_reads' (Kd.R_after (ok := (fun _ => True)) (Kd.rU HO_5.out) hg hat)).2.2) KL48.out)); have n3_ := Y0.mk ((show Kd.C k26 w52 A51 y601.length y601 from by rw [Ny601.out, KA51.out]; exact Kd.C_drop (m := (x7_2 : Int).toNat) (c := co46) ((Kd.R_reads' (Kd.R_after (ok := (fun _ => True)) (Kd.rU HO_5.out) hg hat)).2.2) KL51.out ((Kd.R_reads' (Kd.R_after (ok := (fun _ => True)) (Kd.rU HO_5.out) hg hat)).2.1))); have n4_ := Y0.mk (ho); clear HO_5; clear HB; clear HR593; clear HR604; clear O_3; have HO_5 := n0_; have HB := n1_; have HR593 := n2_; have HR604 := n3_; have O_5 := n4_; clear n0_ n1_ n2_ n3_ n4_; clear ho hb hg hat))
        go_roundg k2
        case measure => have := HK1.out; have := HK2.out; omega
        case rel => exact ⟨(y605), (wrap64 (x6_1 + 1)), reS, H', ⟨by have := HK1.out; have := HK2.out; omega⟩, ⟨by (with_reducible repeat (first | apply Kd.R_alloc | apply Kd.R_drewN | apply Kd.R_drew)); exact Kd.R_mono O_5.out (fun _ hk => trivial)⟩, ⟨hU HB.out⟩⟩
    ·rw [if_neg c5] at H
     have c5b0 := bqF c5
     have c5b1 := bnT c5
     have H' := Y0.mk H
     clear H
     have p566 : 0 ≤ (x6_1 : Int) := of_decide_eq_true (by first | (with_reducible assumption) | assumption)
     have q566 : x6_1 < (l0.length : Int) := of_decide_eq_true (by first | (with_reducible assumption) | assumption)
     obtain ⟨d_0, e566, m_u, m_y, m_11, m_t, m_s, m_13, m_w, m_v, m_x, m_z, m_14, m_10, m_12⟩ := Y1m HR0.out x6_1 p566 q566
     cases e566
     replace m_u := hbC HB m_u
     replace m_y := hbC HB m_y
     replace m_11 := hbC HB m_11
     replace m_t := hbC HB m_t
     replace m_s := hbC HB m_s
     replace m_13 := hbC HB m_13
     replace m_w := hbC HB m_w
     replace m_v := hbC HB m_v
     replace m_x := hbC HB m_x
     replace m_z := hbC HB m_z
     replace m_14 := hbC HB m_14
     replace m_10 := hbC HB m_10
     replace m_12 := hbC HB m_12
     replace p566 := eq_true p566
     replace q566 := eq_true q566
     go_wp2
     go_roundg k1
     case measure => have := HK1.out; omega
     case rel => exact ⟨(x5_1), (wrap64 (x6_1 + 1)), reS, H', ⟨by have := HK1.out; omega⟩, ⟨by (with_reducible repeat (first | apply Kd.R_alloc | apply Kd.R_drewN | apply Kd.R_drew)); exact HO_5.out⟩, ⟨hU HB.out⟩⟩
   ·rw [if_neg c3] at H
    have c3b0 := decide_eq_false c3
    clear c3
    obtain rfl := Option.some.inj H
    go_wp2
    go_ret
    exact ⟨_, reT, by (with_reducible repeat (first | apply Kd.R_alloc | apply Kd.R_drewN | apply Kd.R_drew)); exact HO_5.out, hU HB.out⟩
end Go.Proofs.Yteopkkoblbmggaa.P
end

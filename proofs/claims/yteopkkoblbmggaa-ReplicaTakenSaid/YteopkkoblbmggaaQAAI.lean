/- Texts of this claim in one: VP12, VP3, VPCheck; no condition. -/
import Derived.Test.YteopkkoblbmggaaQAAC
import Derived.Test.YteopkkoblbmggaaQAAE
import Derived.Test.YteopkkoblbmggaaQAAH
import Derived.Test.YteopkkoblbmggaaQAAG
import Derived.Deep.Light
import Derived.WalkSpells
section
namespace Go.Proofs.Yteopkkoblbmggaa.P
open Go.RowKit Go.Proofs.YteopkkoblbmggaaW.PrintWords Go.Proofs.YteopkkoblbmggaaW.PrintLast Go.Proofs.YteopkkoblbmggaaW.PrintMore
attribute [local go_sem] YR YT Y11 Y12 YI YJ YS YU
set_option linter.unusedVariables false
set_option linter.unusedSimpArgs false
attribute [local go_sem high] eqA26
def Yn.l0 : Nat → List (S30) → Int → Int → Int → Option (Int × Bool)
 | 0, _, _, _, _ => none
 | k + 1, x0, x6, x_0, x_1 => if x6 < (x0.length : Int) then (if 0 ≤ x6 then ((YW.f ((Y8 x0 x6).f0.f0) ((Y8 x0 x6).f0.f1) x_0 x_1).bind fun t_0 => (if t_0 = true then (Yn.l0 k x0 (wrap64 (x6 + 1)) x_0 x_1) else (some (x6, (((Y8 x0 x6).f0.f0) == x_0 && (((Y8 x0 x6).f0.f1) == x_1)))))) else (none)) else (some (x6, false))
def Yn.f (k : Nat) (l0 : List (S30)) (a1_0 : Int) (a1_1 : Int) : Option (Int × Bool) := Yn.l0 k l0 0 a1_0 a1_1
theorem Yn.mono_l : ∀ k, (∀ y0 y1 y2 y3, LeO (Yn.l0 k y0 y1 y2 y3) (Yn.l0 (k + 1) y0 y1 y2 y3))
 | 0 => fun _ _ _ _ r h => by simp [Yn.l0] at h
 | k + 1 => by
  have ih0 := Yn.mono_l k
  ·intro y0 y1 y2 y3
   unfold Yn.l0
   repeat' first
   | (with_reducible exact ih0 _ _ _ _)
   | (with_reducible exact LeO.refl _)
   | (with_reducible exact LeO.none _)
   | (with_reducible refine LeO.ite ?_ ?_)
   | (with_reducible refine LeO.bind ?_ (fun _ => ?_))
theorem Yn.mono : ∀ a0 a1 a2 k, LeO (Yn.f k a0 a1 a2) (Yn.f (k + 1) a0 a1 a2) := by
 intro a0 a1 a2 k
 have ih0 := Yn.mono_l k
 unfold Yn.f
 repeat' first
   | (with_reducible exact ih0 _ _ _ _)
   | (with_reducible exact LeO.refl _)
   | (with_reducible exact LeO.none _)
   | (with_reducible refine LeO.ite ?_ ?_)
   | (with_reducible refine LeO.bind ?_ (fun _ => ?_))
def Yn.T2 : Bool × List (List Nat × List Nat) := (true, [([], []), ([], []), ([1], [1]), ([0, 2], [0, 2]), ([3], [3]), ([4], [4]), ([4], [4]), ([5, 6, 4], [4, 5, 6]), ([7, 4], [4, 7]), ([8, 4], [4, 8]), ([4], [4]), ([9, 10, 4, 4], [4, 9, 10]), ([4, 11], [4, 11])])
def Yn.B2 : List Nat := [0, 0, 2, 7, 15, 31, 31, 127, 255, 511, 31, 2047, 4095]
theorem Yn.tab2 : rtab .any (opsOf Try.f56 2) = Yn.T2 := by kernel_rfl
theorem Yn.bits2 : Y1r Yn.T2.2 Yn.B2 = true := by kernel_rfl
def Yn.T4 : Bool × List (List Nat × List Nat) := (true, [([], []), ([], []), ([], []), ([2], [2]), ([1, 3], [1, 3]), ([4], [4]), ([5], [5]), ([5], [5]), ([6, 7, 5], [5, 6, 7]), ([8, 5], [5, 8]), ([9, 5], [5, 9]), ([5], [5]), ([10, 11, 5], [5, 10, 11]), ([5, 12], [5, 12]), ([0, 5, 0], [0]), ([13, 14, 0, 1, 2, 3, 4, 5, 6, 7, 8, 9, 10, 11, 12, 13, 14], [13])])
def Yn.B4 : List Nat := [0, 0, 0, 4, 14, 30, 62, 62, 254, 510, 1022, 62, 4094, 8190, 63, 32767]
theorem Yn.tab4 : rtab .any (opsOf Try.f56 4) = Yn.T4 := by kernel_rfl
theorem Yn.bits4 : Y1r Yn.T4.2 Yn.B4 = true := by kernel_rfl
set_option maxHeartbeats 8000000 in
set_option maxRecDepth 100000 in
theorem Yn.calls (k : Nat) (A0 : Option Addr) (c0 : Nat) (l0 : List (S30)) (a1_0 : Int) (a1_1 : Int) (r1 : Int) (r2 : Bool) (w : World) (hr0 : Kd.C k30 w A0 l0.length l0) (hc0 : l0.length ≤ c0) (h : Yn.f k l0 a1_0 a1_1 = some (r1, r2)) :
  Calls Try.prog 56 #[.slice A0 l0.length c0, .agg #[.int .i64 a1_0, .int .i64 a1_1]] w fun e w' => e = .returned (.tuple #[.int .i64 r1, .bool r2]) ∧ Below w.heap.size w w' := by
 have hu26 := Try.underlying26
 have HR0 := Y0.mk hr0
 have HC0 := Y0.mk hc0
 clear hr0 hc0
 have HB := Y0.mk (Below.refl w.heap.size w)
 have H : (Yn.l0 k l0 0 a1_0 a1_1) = some (r1, r2) := h
 clear h
 have H' := Y0.mk H
 clear H
 go_enter Try.func56, Try.ntmps56
 go_wp2_with (first | ((with_reducible refine Ye (N := 3) rfl ?_); refine Yh ?hg (N := 3) ?hd (cs := #[.int .i64 a1_0, .int .i64 a1_1]) (t := 26) ?hr ?_; (case hd => rfl); (case hg => rfl); (case hr => first | (go_simp; done) | (go_simp; rfl)); intro g_0 hg w3 hbox hb; have n0_ := Y0.mk (Y3 (hU HB.out) hb); have n1_ := Y0.mk (hbox); have n2_ := gE hg HB; have n3_ := gE hg HB; clear HB; have HB := n0_; have B_0 := n1_; have W_0 := n2_; have G_0 := n3_; clear n0_ n1_ n2_ n3_; clear hb hbox hg))
 go_loopg [6] k (fun kq v6 w' => ∃ (x6_1 : Int), v6 = .int .i64 x6_1 ∧ Y0 (Yn.l0 kq l0 x6_1 a1_0 a1_1 = some (r1, r2)) ∧ Y0 (kq ≤ k) ∧ Y0 (w'.heap[g_0]? = some (.cells #[.int .i64 a1_0, .int .i64 a1_1] 26 (0, 0))) ∧ Y0 (Below w.heap.size w w'))
 case atStart => exact ⟨(0), reS, H', ⟨Nat.le_refl _⟩, ⟨kB B_0⟩, ⟨hU HB.out⟩⟩
 case round =>
  clear H'
  try clear p2
  obtain ⟨x6_1, rfl, HA, HK1, B_0, HB⟩ := hrel
  cases gk with
  | zero => exact absurd HA.out (by simp [Yn.l0])
  | succ k1 =>
   have H := HA.out
   clear HA
   simp only [Yn.l0] at H
   by_cases c4 : x6_1 < (l0.length : Int)
   ·rw [if_pos c4] at H
    have c4b0 := decide_eq_true c4
    clear c4
    obtain ⟨c5, H⟩ := iS H
    have c5b0 := decide_eq_true c5
    clear c5
    obtain ⟨t_0, A60, H⟩ := bS H
    try dsimp only at H
    have A6 := Y0.mk A60
    clear A60
    by_cases c7 : t_0 = true
    ·subst c7
     have H1 : (Yn.l0 k1 l0 (wrap64 (x6_1 + 1)) a1_0 a1_1) = some (r1, r2) := by rw [if_pos rfl] at H; exact H
     clear H
     have H := H1
     clear H1
     have H' := Y0.mk H
     clear H
     try go_wp2
     replace B_0 := Y0.mk (Y6 B_0.out)
     replace HB := Y0.mk (Yy HB.out)
     have p128 : 0 ≤ (x6_1 : Int) := of_decide_eq_true (by first | (with_reducible assumption) | assumption)
     have q128 : x6_1 < (l0.length : Int) := of_decide_eq_true (by first | (with_reducible assumption) | assumption)
     obtain ⟨d_0, e128, m_7, m_a, m_6, m_c, m_8, m_b, m_4, m_1, m_3, m_5, m_0, m_9, m_2⟩ := Y1i HR0.out x6_1 p128 q128
     have q_0 := m_2
     have q_b := m_9
     have q_9 := m_0
     have q_c := m_5
     have q_8 := m_3
     have q_5 := m_1
     have q_6 := m_4
     have q_2 := m_b
     have q_1 := m_8
     have q_a := m_c
     have q_4 := m_6
     have q_7 := m_a
     have q_3 := m_7
     cases e128
     replace m_7 := hbC HB m_7
     replace m_a := hbC HB m_a
     replace m_6 := hbC HB m_6
     replace m_c := hbC HB m_c
     replace m_8 := hbC HB m_8
     replace m_b := hbC HB m_b
     replace m_4 := hbC HB m_4
     replace m_1 := hbC HB m_1
     replace m_3 := hbC HB m_3
     replace m_5 := hbC HB m_5
     replace m_0 := hbC HB m_0
     replace m_9 := hbC HB m_9
     replace m_2 := hbC HB m_2
     replace p128 := eq_true p128
     replace q128 := eq_true q128
     refine Y1d (n := 13) (S := fun w' => w'.cell? ⟨g_0, 0, none⟩ = some (.int .i64 a1_0) ∧ w'.cell? ⟨g_0, 1, none⟩ = some (.int .i64 a1_1) ∧ w'.cell? (d_0.add ((x6_1).toNat * 13)) = some (.int .i64 ((Y8 l0 x6_1).f0.f0)) ∧ w'.cell? ⟨(d_0.add ((x6_1).toNat * 13)).block, (d_0.add ((x6_1).toNat * 13)).off + 1, none⟩ = some (.int .i64 ((Y8 l0 x6_1).f0.f1)) ∧ w'.cell? ⟨(d_0.add ((x6_1).toNat * 13)).block, (d_0.add ((x6_1).toNat * 13)).off + 2, none⟩ = some (.int .i64 ((Y8 l0 x6_1).f1)) ∧ w'.cell? ⟨(d_0.add ((x6_1).toNat * 13)).block, (d_0.add ((x6_1).toNat * 13)).off + 3, none⟩ = some (.int .i64 ((Y8 l0 x6_1).f2.f0)) ∧ w'.cell? ⟨(d_0.add ((x6_1).toNat * 13)).block, (d_0.add ((x6_1).toNat * 13)).off + 4, none⟩ = some (.int .i64 ((Y8 l0 x6_1).f2.f1)) ∧ w'.cell? ⟨(d_0.add ((x6_1).toNat * 13)).block, (d_0.add ((x6_1).toNat * 13)).off + 5, none⟩ = some (.bool ((Y8 l0 x6_1).f3)) ∧ w'.cell? ⟨(d_0.add ((x6_1).toNat * 13)).block, (d_0.add ((x6_1).toNat * 13)).off + 6, none⟩ = some (.int .i64 ((Y8 l0 x6_1).f4.f0)) ∧ w'.cell? ⟨(d_0.add ((x6_1).toNat * 13)).block, (d_0.add ((x6_1).toNat * 13)).off + 7, none⟩ = some (.int .i64 ((Y8 l0 x6_1).f4.f1)) ∧ w'.cell? ⟨(d_0.add ((x6_1).toNat * 13)).block, (d_0.add ((x6_1).toNat * 13)).off + 8, none⟩ = some (.int .i64 ((Y8 l0 x6_1).f4.f2)) ∧ w'.cell? ⟨(d_0.add ((x6_1).toNat * 13)).block, (d_0.add ((x6_1).toNat * 13)).off + 9, none⟩ = some (.int .i64 ((Y8 l0 x6_1).f4.f3)) ∧ w'.cell? ⟨(d_0.add ((x6_1).toNat * 13)).block, (d_0.add ((x6_1).toNat * 13)).off + 10, none⟩ = some (.int .i64 ((Y8 l0 x6_1).f4.f4)) ∧ w'.cell? ⟨(d_0.add ((x6_1).toNat * 13)).block, (d_0.add ((x6_1).toNat * 13)).off + 11, none⟩ = some (.int .i64 ((Y8 l0 x6_1).f4.f5)) ∧ w'.cell? ⟨(d_0.add ((x6_1).toNat * 13)).block, (d_0.add ((x6_1).toNat * 13)).off + 12, none⟩ = some (.int .i64 ((Y8 l0 x6_1).f4.f6))) (ds := []) #[false, false, false, false, false, false, false, false, false, false, false, false, false] (by kernel_rfl) rfl rfl ⟨(Y2 B_0.out 0).trans rfl, (Y2 B_0.out 1).trans rfl, (hbC HB q_3), (hbC HB q_7), (hbC HB q_4), (hbC HB q_a), (hbC HB q_1), (hbC HB q_2), (hbC HB q_6), (hbC HB q_5), (hbC HB q_8), (hbC HB q_c), (hbC HB q_9), (hbC HB q_b), (hbC HB q_0)⟩ (fun hHeld => ?_); refine YY Yn.tab2 Yn.bits2 (fun HT_ HW_ => ?_)
     generalize wr.drew = w8 at B_0 HB m_7 m_a m_0 m_9 m_2 m_6 m_c m_8 m_b m_4 m_1 m_3 m_5 hHeld ⊢
     refine puA 0 7 (bs 13 1) ?_
     refine puA 1 8 (bs 13 3) ?_
     refine puA 2 9 (bs 13 7) ?_
     refine puA 3 10 (bs 13 15) ?_
     refine puA 4 11 (bs 13 31) ?_
     refine puA 5 12 (bs 13 63) ?_
     refine puA 6 13 (bs 13 127) ?_
     refine puA 7 14 (bs 13 255) ?_
     refine puA 8 15 (bs 13 511) ?_
     refine tkA 9 16 (bs 13 1023) hHeld ?_
     refine tkA 10 17 (bs 13 2047) hHeld ?_
     refine one_ (i := 11) (N := some 18) (bs 13 4095) rfl rfl (YQ HT_.out (by kernel_rfl)) (by decide) (fun K hK => ?_)
     refine goes_ Try.func75 (by kernel_rfl) rfl #[.agg #[.int .i64 ((Y8 l0 x6_1).f0.f0), .int .i64 ((Y8 l0 x6_1).f0.f1)], .agg #[.int .i64 a1_0, .int .i64 a1_1]] (by rfl) rfl rfl (by (try simp only [List.map_toArray, List.map_cons, List.map_nil]); first | done | rfl | (simp only [List.length_drop, List.length_take]; rfl)) ?_
     with_reducible refine (YW.calls ((Y8 l0 x6_1).f0.f0) ((Y8 l0 x6_1).f0.f1) a1_0 a1_1 true _ A6.out).mono ?_
     rintro e w9 ⟨rfl, hb⟩
     refine ⟨_, rfl, ?_⟩
     replace B_0 := Y0.mk (Y1 (bU B_0.out) hb)
     replace HB := Y0.mk (Y3 (hU HB.out) hb)
     (try clear hb)
     (try clear hb2)
     (try clear hk)
     (try clear hi)
     refine hK.out _ _ ⟨(Y2 B_0.out 0).trans rfl, (Y2 B_0.out 1).trans rfl, (hbC HB q_3), (hbC HB q_7), (hbC HB q_4), (hbC HB q_a), (hbC HB q_1), (hbC HB q_2), (hbC HB q_6), (hbC HB q_5), (hbC HB q_8), (hbC HB q_c), (hbC HB q_9), (hbC HB q_b), (hbC HB q_0)⟩ (fun hHeld => ?_)
     clear hK K
     refine nmA 18 ?_
     refine puA 12 19 (bs 13 8191) ?_
     refine done_ (Y1g HT_.out (by kernel_rfl)) ?_
     try go_wp2
     go_roundg k1
     case measure => have := HK1.out; omega
     case rel => exact ⟨(wrap64 (x6_1 + 1)), reS, H', ⟨by have := HK1.out; omega⟩, ⟨kB B_0⟩, ⟨hU HB.out⟩⟩
    ·replace c7 := Bool.eq_false_iff.mpr c7
     subst c7
     have H1 : (some (x6_1, (((Y8 l0 x6_1).f0.f0) == a1_0 && (((Y8 l0 x6_1).f0.f1) == a1_1)))) = some (r1, r2) := by rw [if_neg (show ¬ (false = true) by decide)] at H; exact H
     clear H
     have H := H1
     clear H1
     simp only [Option.some.injEq, Prod.mk.injEq] at H
     obtain ⟨rfl, rfl⟩ := H
     try go_wp2
     replace B_0 := Y0.mk (Y6 B_0.out)
     replace HB := Y0.mk (Yy HB.out)
     have p128 : 0 ≤ (x6_1 : Int) := of_decide_eq_true (by first | (with_reducible assumption) | assumption)
     have q128 : x6_1 < (l0.length : Int) := of_decide_eq_true (by first | (with_reducible assumption) | assumption)
     obtain ⟨d_0, e128, m_7, m_a, m_6, m_c, m_8, m_b, m_4, m_1, m_3, m_5, m_0, m_9, m_2⟩ := Y1i HR0.out x6_1 p128 q128
     have q_0 := m_2
     have q_b := m_9
     have q_9 := m_0
     have q_c := m_5
     have q_8 := m_3
     have q_5 := m_1
     have q_6 := m_4
     have q_2 := m_b
     have q_1 := m_8
     have q_a := m_c
     have q_4 := m_6
     have q_7 := m_a
     have q_3 := m_7
     cases e128
     replace m_7 := hbC HB m_7
     replace m_a := hbC HB m_a
     replace m_6 := hbC HB m_6
     replace m_c := hbC HB m_c
     replace m_8 := hbC HB m_8
     replace m_b := hbC HB m_b
     replace m_4 := hbC HB m_4
     replace m_1 := hbC HB m_1
     replace m_3 := hbC HB m_3
     replace m_5 := hbC HB m_5
     replace m_0 := hbC HB m_0
     replace m_9 := hbC HB m_9
     replace m_2 := hbC HB m_2
     replace p128 := eq_true p128
     replace q128 := eq_true q128
     refine Y1d (n := 13) (S := fun w' => w'.cell? ⟨g_0, 0, none⟩ = some (.int .i64 a1_0) ∧ w'.cell? ⟨g_0, 1, none⟩ = some (.int .i64 a1_1) ∧ w'.cell? (d_0.add ((x6_1).toNat * 13)) = some (.int .i64 ((Y8 l0 x6_1).f0.f0)) ∧ w'.cell? ⟨(d_0.add ((x6_1).toNat * 13)).block, (d_0.add ((x6_1).toNat * 13)).off + 1, none⟩ = some (.int .i64 ((Y8 l0 x6_1).f0.f1)) ∧ w'.cell? ⟨(d_0.add ((x6_1).toNat * 13)).block, (d_0.add ((x6_1).toNat * 13)).off + 2, none⟩ = some (.int .i64 ((Y8 l0 x6_1).f1)) ∧ w'.cell? ⟨(d_0.add ((x6_1).toNat * 13)).block, (d_0.add ((x6_1).toNat * 13)).off + 3, none⟩ = some (.int .i64 ((Y8 l0 x6_1).f2.f0)) ∧ w'.cell? ⟨(d_0.add ((x6_1).toNat * 13)).block, (d_0.add ((x6_1).toNat * 13)).off + 4, none⟩ = some (.int .i64 ((Y8 l0 x6_1).f2.f1)) ∧ w'.cell? ⟨(d_0.add ((x6_1).toNat * 13)).block, (d_0.add ((x6_1).toNat * 13)).off + 5, none⟩ = some (.bool ((Y8 l0 x6_1).f3)) ∧ w'.cell? ⟨(d_0.add ((x6_1).toNat * 13)).block, (d_0.add ((x6_1).toNat * 13)).off + 6, none⟩ = some (.int .i64 ((Y8 l0 x6_1).f4.f0)) ∧ w'.cell? ⟨(d_0.add ((x6_1).toNat * 13)).block, (d_0.add ((x6_1).toNat * 13)).off + 7, none⟩ = some (.int .i64 ((Y8 l0 x6_1).f4.f1)) ∧ w'.cell? ⟨(d_0.add ((x6_1).toNat * 13)).block, (d_0.add ((x6_1).toNat * 13)).off + 8, none⟩ = some (.int .i64 ((Y8 l0 x6_1).f4.f2)) ∧ w'.cell? ⟨(d_0.add ((x6_1).toNat * 13)).block, (d_0.add ((x6_1).toNat * 13)).off + 9, none⟩ = some (.int .i64 ((Y8 l0 x6_1).f4.f3)) ∧ w'.cell? ⟨(d_0.add ((x6_1).toNat * 13)).block, (d_0.add ((x6_1).toNat * 13)).off + 10, none⟩ = some (.int .i64 ((Y8 l0 x6_1).f4.f4)) ∧ w'.cell? ⟨(d_0.add ((x6_1).toNat * 13)).block, (d_0.add ((x6_1).toNat * 13)).off + 11, none⟩ = some (.int .i64 ((Y8 l0 x6_1).f4.f5)) ∧ w'.cell? ⟨(d_0.add ((x6_1).toNat * 13)).block, (d_0.add ((x6_1).toNat * 13)).off + 12, none⟩ = some (.int .i64 ((Y8 l0 x6_1).f4.f6))) (ds := []) #[false, false, false, false, false, false, false, false, false, false, false, false, false] (by kernel_rfl) rfl rfl ⟨(Y2 B_0.out 0).trans rfl, (Y2 B_0.out 1).trans rfl, (hbC HB q_3), (hbC HB q_7), (hbC HB q_4), (hbC HB q_a), (hbC HB q_1), (hbC HB q_2), (hbC HB q_6), (hbC HB q_5), (hbC HB q_8), (hbC HB q_c), (hbC HB q_9), (hbC HB q_b), (hbC HB q_0)⟩ (fun hHeld => ?_); refine YY Yn.tab2 Yn.bits2 (fun HT_ HW_ => ?_)
     generalize wr.drew = w10 at B_0 HB m_7 m_a m_0 m_9 m_2 m_6 m_c m_8 m_b m_4 m_1 m_3 m_5 hHeld ⊢
     refine puA 0 7 (bs 13 1) ?_
     refine puA 1 8 (bs 13 3) ?_
     refine puA 2 9 (bs 13 7) ?_
     refine puA 3 10 (bs 13 15) ?_
     refine puA 4 11 (bs 13 31) ?_
     refine puA 5 12 (bs 13 63) ?_
     refine puA 6 13 (bs 13 127) ?_
     refine puA 7 14 (bs 13 255) ?_
     refine puA 8 15 (bs 13 511) ?_
     refine tkA 9 16 (bs 13 1023) hHeld ?_
     refine tkA 10 17 (bs 13 2047) hHeld ?_
     refine one_ (i := 11) (N := some 18) (bs 13 4095) rfl rfl (YQ HT_.out (by kernel_rfl)) (by decide) (fun K hK => ?_)
     refine goes_ Try.func75 (by kernel_rfl) rfl #[.agg #[.int .i64 ((Y8 l0 x6_1).f0.f0), .int .i64 ((Y8 l0 x6_1).f0.f1)], .agg #[.int .i64 a1_0, .int .i64 a1_1]] (by rfl) rfl rfl (by (try simp only [List.map_toArray, List.map_cons, List.map_nil]); first | done | rfl | (simp only [List.length_drop, List.length_take]; rfl)) ?_
     with_reducible refine (YW.calls ((Y8 l0 x6_1).f0.f0) ((Y8 l0 x6_1).f0.f1) a1_0 a1_1 false _ A6.out).mono ?_
     rintro e w11 ⟨rfl, hb⟩
     refine ⟨_, rfl, ?_⟩
     replace B_0 := Y0.mk (Y1 (bU B_0.out) hb)
     replace HB := Y0.mk (Y3 (hU HB.out) hb)
     (try clear hb)
     (try clear hb2)
     (try clear hk)
     (try clear hi)
     refine hK.out _ _ ⟨(Y2 B_0.out 0).trans rfl, (Y2 B_0.out 1).trans rfl, (hbC HB q_3), (hbC HB q_7), (hbC HB q_4), (hbC HB q_a), (hbC HB q_1), (hbC HB q_2), (hbC HB q_6), (hbC HB q_5), (hbC HB q_8), (hbC HB q_c), (hbC HB q_9), (hbC HB q_b), (hbC HB q_0)⟩ (fun hHeld => ?_)
     clear hK K
     refine nmA 18 ?_
     refine puA 12 19 (bs 13 8191) ?_
     refine done_ (Y1g HT_.out (by kernel_rfl)) ?_
     try go_wp2
     replace B_0 := Y0.mk (Y6 B_0.out)
     replace HB := Y0.mk (Yy HB.out)
     have p130 : 0 ≤ (x6_1 : Int) := of_decide_eq_true (by first | (with_reducible assumption) | assumption)
     have q130 : x6_1 < (l0.length : Int) := of_decide_eq_true (by first | (with_reducible assumption) | assumption)
     obtain ⟨d_1, e130, m_l, m_d, m_g, m_i, m_e, m_n, m_f, m_h, m_k, m_o, m_j, m_m, m_p⟩ := Y1i HR0.out x6_1 p130 q130
     have q_i := m_p
     have q_m := m_m
     have q_l := m_j
     have q_e := m_o
     have q_d := m_k
     have q_k := m_h
     have q_g := m_f
     have q_p := m_n
     have q_j := m_e
     have q_n := m_i
     have q_o := m_g
     have q_f := m_d
     have q_h := m_l
     obtain rfl : d_0 = d_1 := (by injection e130)
     replace m_l := hbC HB m_l
     replace m_d := hbC HB m_d
     replace m_g := hbC HB m_g
     replace m_i := hbC HB m_i
     replace m_e := hbC HB m_e
     replace m_n := hbC HB m_n
     replace m_f := hbC HB m_f
     replace m_h := hbC HB m_h
     replace m_k := hbC HB m_k
     replace m_o := hbC HB m_o
     replace m_j := hbC HB m_j
     replace m_m := hbC HB m_m
     replace m_p := hbC HB m_p
     replace p130 := eq_true p130
     replace q130 := eq_true q130
     refine Y1d (n := 16) (S := fun w' => w'.cell? ⟨g_0, 0, none⟩ = some (.int .i64 a1_0) ∧ w'.cell? ⟨g_0, 1, none⟩ = some (.int .i64 a1_1) ∧ w'.cell? (d_0.add ((x6_1).toNat * 13)) = some (.int .i64 ((Y8 l0 x6_1).f0.f0)) ∧ w'.cell? ⟨(d_0.add ((x6_1).toNat * 13)).block, (d_0.add ((x6_1).toNat * 13)).off + 1, none⟩ = some (.int .i64 ((Y8 l0 x6_1).f0.f1)) ∧ w'.cell? ⟨(d_0.add ((x6_1).toNat * 13)).block, (d_0.add ((x6_1).toNat * 13)).off + 2, none⟩ = some (.int .i64 ((Y8 l0 x6_1).f1)) ∧ w'.cell? ⟨(d_0.add ((x6_1).toNat * 13)).block, (d_0.add ((x6_1).toNat * 13)).off + 3, none⟩ = some (.int .i64 ((Y8 l0 x6_1).f2.f0)) ∧ w'.cell? ⟨(d_0.add ((x6_1).toNat * 13)).block, (d_0.add ((x6_1).toNat * 13)).off + 4, none⟩ = some (.int .i64 ((Y8 l0 x6_1).f2.f1)) ∧ w'.cell? ⟨(d_0.add ((x6_1).toNat * 13)).block, (d_0.add ((x6_1).toNat * 13)).off + 5, none⟩ = some (.bool ((Y8 l0 x6_1).f3)) ∧ w'.cell? ⟨(d_0.add ((x6_1).toNat * 13)).block, (d_0.add ((x6_1).toNat * 13)).off + 6, none⟩ = some (.int .i64 ((Y8 l0 x6_1).f4.f0)) ∧ w'.cell? ⟨(d_0.add ((x6_1).toNat * 13)).block, (d_0.add ((x6_1).toNat * 13)).off + 7, none⟩ = some (.int .i64 ((Y8 l0 x6_1).f4.f1)) ∧ w'.cell? ⟨(d_0.add ((x6_1).toNat * 13)).block, (d_0.add ((x6_1).toNat * 13)).off + 8, none⟩ = some (.int .i64 ((Y8 l0 x6_1).f4.f2)) ∧ w'.cell? ⟨(d_0.add ((x6_1).toNat * 13)).block, (d_0.add ((x6_1).toNat * 13)).off + 9, none⟩ = some (.int .i64 ((Y8 l0 x6_1).f4.f3)) ∧ w'.cell? ⟨(d_0.add ((x6_1).toNat * 13)).block, (d_0.add ((x6_1).toNat * 13)).off + 10, none⟩ = some (.int .i64 ((Y8 l0 x6_1).f4.f4)) ∧ w'.cell? ⟨(d_0.add ((x6_1).toNat * 13)).block, (d_0.add ((x6_1).toNat * 13)).off + 11, none⟩ = some (.int .i64 ((Y8 l0 x6_1).f4.f5)) ∧ w'.cell? ⟨(d_0.add ((x6_1).toNat * 13)).block, (d_0.add ((x6_1).toNat * 13)).off + 12, none⟩ = some (.int .i64 ((Y8 l0 x6_1).f4.f6))) (ds := []) #[false, false, false, false, false, false, false, false, false, false, false, false, false, false, false, false] (by kernel_rfl) rfl rfl ⟨(Y2 B_0.out 0).trans rfl, (Y2 B_0.out 1).trans rfl, (hbC HB q_h), (hbC HB q_f), (hbC HB q_o), (hbC HB q_n), (hbC HB q_j), (hbC HB q_p), (hbC HB q_g), (hbC HB q_k), (hbC HB q_d), (hbC HB q_e), (hbC HB q_l), (hbC HB q_m), (hbC HB q_i)⟩ (fun hHeld => ?_); refine YY Yn.tab4 Yn.bits4 (fun HT_ HW_ => ?_)
     generalize w11.drew = w12 at B_0 HB m_l m_d m_j m_m m_p m_g m_i m_e m_n m_f m_h m_k m_o hHeld ⊢
     refine puA 0 22 (bs 16 1) ?_
     refine puA 1 23 (bs 16 3) ?_
     refine puA 2 24 (bs 16 7) ?_
     refine puA 3 25 (bs 16 15) ?_
     refine puA 4 26 (bs 16 31) ?_
     refine puA 5 27 (bs 16 63) ?_
     refine puA 6 28 (bs 16 127) ?_
     refine puA 7 29 (bs 16 255) ?_
     refine puA 8 30 (bs 16 511) ?_
     refine puA 9 31 (bs 16 1023) ?_
     refine puA 14 4 (bs 16 17407) ?_
     refine tkA 10 32 (bs 16 18431) hHeld ?_
     refine tkA 11 33 (bs 16 20479) hHeld ?_
     refine puA 12 34 (bs 16 24575) ?_
     refine puA 13 35 (bs 16 32767) ?_
     refine puA 15 5 (bs 16 65535) ?_
     refine done_ (Y1g HT_.out (by kernel_rfl)) ?_
     try go_wp2
     go_ret2
     exact ⟨reT, hU HB.out⟩
   ·rw [if_neg c4] at H
    have c4b0 := decide_eq_false c4
    clear c4
    simp only [Option.some.injEq, Prod.mk.injEq] at H
    obtain ⟨rfl, rfl⟩ := H
    try go_wp2
    replace B_0 := Y0.mk (Y6 B_0.out)
    replace HB := Y0.mk (Yy HB.out)
    refine Y1d (n := 13) (S := fun w' => True) (ds := []) #[false, false, false, false, false, false, false, false, false, false, false, false, false] (by kernel_rfl) rfl rfl trivial (fun hHeld => ?_); refine YY Yn.tab2 Yn.bits2 (fun HT_ HW_ => ?_)
    generalize wr.drew = w13 at B_0 HB hHeld ⊢
    refine puA 0 7 (bs 13 1) ?_
    refine puA 1 8 (bs 13 3) ?_
    refine puA 2 9 (bs 13 7) ?_
    refine puA 3 10 (bs 13 15) ?_
    refine puA 4 11 (bs 13 31) ?_
    refine skA 5 12 (bs 13 63) ?_
    refine skA 6 13 (bs 13 127) ?_
    refine skA 7 14 (bs 13 255) ?_
    refine skA 8 15 (bs 13 511) ?_
    refine skA 9 16 (bs 13 1023) ?_
    refine skA 10 17 (bs 13 2047) ?_
    refine skA 11 18 (bs 13 4095) ?_
    refine puA 12 19 (bs 13 8191) ?_
    refine done_ (Y1g HT_.out (by kernel_rfl)) ?_
    try go_wp2
    replace B_0 := Y0.mk (Y6 B_0.out)
    replace HB := Y0.mk (Yy HB.out)
    refine Y1d (n := 16) (S := fun w' => True) (ds := []) #[false, false, false, false, false, false, false, false, false, false, false, false, false, false, false, false] (by kernel_rfl) rfl rfl trivial (fun hHeld => ?_); refine YY Yn.tab4 Yn.bits4 (fun HT_ HW_ => ?_)
    generalize w13.drew = w14 at B_0 HB hHeld ⊢
    refine puA 0 22 (bs 16 1) ?_
    refine puA 1 23 (bs 16 3) ?_
    refine puA 2 24 (bs 16 7) ?_
    refine puA 3 25 (bs 16 15) ?_
    refine puA 4 26 (bs 16 31) ?_
    refine puA 5 27 (bs 16 63) ?_
    refine skA 6 28 (bs 16 127) ?_
    refine skA 7 29 (bs 16 255) ?_
    refine skA 8 30 (bs 16 511) ?_
    refine skA 9 31 (bs 16 1023) ?_
    refine skA 10 32 (bs 16 2047) ?_
    refine skA 11 33 (bs 16 4095) ?_
    refine skA 12 34 (bs 16 8191) ?_
    refine puA 13 35 (bs 16 16383) ?_
    refine puA 14 4 (bs 16 32767) ?_
    refine puA 15 5 (bs 16 65535) ?_
    refine done_ (Y1g HT_.out (by kernel_rfl)) ?_
    try go_wp2
    go_ret2
    exact ⟨reT, hU HB.out⟩
end Go.Proofs.Yteopkkoblbmggaa.P
end
section
namespace Go.Proofs.Yteopkkoblbmggaa.P
open Go.RowKit Go.Proofs.YteopkkoblbmggaaW.PrintWords Go.Proofs.YteopkkoblbmggaaW.PrintLast Go.Proofs.YteopkkoblbmggaaW.PrintMore
attribute [local go_sem] YR YT Y11 Y12 YI YJ YS YU
set_option linter.unusedVariables false
set_option linter.unusedSimpArgs false
theorem eqA30 (d : Nat) (w : World) (x0 y0 : Int) (x1 y1 : Int) (x2 y2 : Int) (x3 y3 : Int) (x4 y4 : Int) (x5 y5 : Bool) (x6 y6 : Int) (x7 y7 : Int) (x8 y8 : Int) (x9 y9 : Int) (x10 y10 : Int) (x11 y11 : Int) (x12 y12 : Int) :
  (Op.equalIn (d + 3) 30 (.agg #[.int .i64 x0, .int .i64 x1, .int .i64 x2, .int .i64 x3, .int .i64 x4, .bool x5, .int .i64 x6, .int .i64 x7, .int .i64 x8, .int .i64 x9, .int .i64 x10, .int .i64 x11, .int .i64 x12]) (.agg #[.int .i64 y0, .int .i64 y1, .int .i64 y2, .int .i64 y3, .int .i64 y4, .bool y5, .int .i64 y6, .int .i64 y7, .int .i64 y8, .int .i64 y9, .int .i64 y10, .int .i64 y11, .int .i64 y12])).run Try.prog w = .ok ((x0 == y0 && (x1 == y1)) && (x2 == y2 && ((x3 == y3 && (x4 == y4)) && (x5 == y5 && ((x6 == y6 && (x7 == y7 && (x8 == y8 && (x9 == y9 && (x10 == y10 && (x11 == y11 && (x12 == y12)))))))))))) w := by
 refine Y4Y Try.underlying30 (by kernel_rfl) ?_
 refine Y1A (by rfl) (by go_simp) (by go_simp) (eqA26 (d + 0) w _ _ _ _) ?_
 refine Y1A (by rfl) (by go_simp; rfl) (by go_simp; rfl) (by go_simp) ?_
 refine Y1A (by rfl) (by go_simp) (by go_simp) (eqA26 (d + 0) w _ _ _ _) ?_
 refine Y1A (by rfl) (by go_simp; rfl) (by go_simp; rfl) (by go_simp) ?_
 exact Y3u (by rfl) (by go_simp) (by go_simp) (eqA28 (d + 0) w _ _ _ _ _ _ _ _ _ _ _ _ _ _)
end Go.Proofs.Yteopkkoblbmggaa.P
end
section
set_option linter.unusedVariables false
set_option linter.unusedSimpArgs false
namespace Go.Proofs.Yteopkkoblbmggaa.P
open Go.RowKit Go.Maps Go.Proofs.YteopkkoblbmggaaW.PrintWords Go.Proofs.YteopkkoblbmggaaW.PrintLast Go.Proofs.YteopkkoblbmggaaW.PrintMore
def chk30 (e : S30) : Int := chkE e.f0.f0 e.f0.f1 e.f1 e.f2.f0 e.f2.f1 e.f3 e.f4.f0 e.f4.f1 e.f4.f2 e.f4.f3 e.f4.f4 e.f4.f5 e.f4.f6
def Y1L : List S30 → Int
  | [] => 0
  | e :: t => if chk30 e = 0 then Y1L t else chk30 e
def YV (a b : S26) : Bool := lessP a.f0 a.f1 b.f0 b.f1
def ord30 : List S30 → Bool
  | a :: b :: t => YV a.f0 b.f0 && ord30 (b :: t)
  | _ => true
def kno30 (l : List S30) (e : S30) : Bool := fouB l e.f1 e.f2.f0 e.f2.f1
def rchkP (d : Int) (l : List S30) : Int :=
  if d < 1 ∨ 64 < d then 43 else if 512 < l.length then 3 else if Y1L l = 0 then (if ord30 l = true then (if l.all (kno30 l) = true then 0 else 6) else 5) else Y1L l
instance (n : Int) : Decidable (okN n) := inferInstanceAs (Decidable (_ = true))
instance (e : S30) : Decidable (okE30 e) := inferInstanceAs (Decidable (_ ∧ _ ∧ _))
def Yk.f (a0 : Int) (l1 : List S30) : Option Int := if ∀ e ∈ l1, okE30 e then some (rchkP a0 l1) else none
set_option maxHeartbeats 16000000 in
set_option maxRecDepth 100000 in
theorem Yk.calls (a0 : Int) (A1 : Option Addr) (c1 : Nat) (l1 : List S30) (r : Int) (w : World) (hr1 : Kd.C k30 w A1 l1.length l1) (hc1 : l1.length ≤ c1) (h : Yk.f a0 l1 = some r) :
    Calls Try.prog 29 #[.agg #[.int .i64 a0, .slice A1 l1.length c1]] w fun e w' => e = .returned (.int .i64 r) ∧ Below w.heap.size w w' := by
  unfold Yk.f at h
  by_cases hv : ∀ e ∈ l1, okE30 e
  rotate_left
  · rw [if_neg hv] at h; cases h
  rw [if_pos hv] at h
  have HH : Y0 (rchkP a0 l1 = r) := ⟨Option.some.inj h⟩
  have HR := Y0.mk hr1
  have HC := Y0.mk hc1
  have HV := Y0.mk hv
  have HB := Y0.mk (Below.refl w.heap.size w)
  have hu24 := Try.underlying24
  clear hr1 hc1 hv h
  go_enter Try.func29, Try.ntmps29
  go_upto_region 1 with (fail)
  have n1_ : Below w.heap.size w (w.alloc (.cells #[.int .i64 a0, .slice A1 l1.length c1] 24)) := Ys HB.out _
  have B0 : Y0 ((w.alloc (.cells #[.int .i64 a0, .slice A1 l1.length c1] 24)).heap[w.heap.size]? = some (.cells #[.int .i64 a0, .slice A1 l1.length c1] 24 (0, 0))) := ⟨Y1f _ _⟩
  have GE : Y0 (w.heap.size ≤ w.heap.size) := ⟨Nat.le_refl _⟩
  clear HB
  have HB := Y0.mk n1_
  clear n1_
  generalize hg0 : w.heap.size = g0 at B0 HB GE ⊢
  rw [← hg0] at HB
  generalize (w.alloc (.cells #[.int .i64 a0, .slice A1 l1.length c1] 24)) = W0 at B0 HB ⊢
  have hc0 := Y2 B0.out
  by_cases d0 : a0 < 1
  · have hr : r = 43 := by have := HH.out; unfold rchkP at this; rw [if_pos (Or.inl d0)] at this; exact this.symm
    subst hr
    have d0b := decide_eq_true d0
    clear d0
    go_wp2
    go_ret
    exact ⟨rfl, HB.out⟩
  have d0b := decide_eq_false d0
  by_cases d1 : 64 < a0
  · have hr : r = 43 := by have := HH.out; unfold rchkP at this; rw [if_pos (Or.inr d1)] at this; exact this.symm
    subst hr
    have d1b := decide_eq_true d1
    clear d0 d1
    go_wp2
    go_ret
    exact ⟨rfl, HB.out⟩
  have d1b := decide_eq_false d1
  by_cases d2 : 512 < l1.length
  · have hr : r = 3 := by have := HH.out; unfold rchkP at this; rw [if_neg (by omega), if_pos d2] at this; exact this.symm
    subst hr
    have d2b : decide ((512 : Int) < (l1.length : Int)) = true := decide_eq_true (by omega)
    clear d0 d1
    go_wp2
    go_ret
    exact ⟨rfl, HB.out⟩
  have d2b : decide ((512 : Int) < (l1.length : Int)) = false := decide_eq_false (by omega)
  have HX : Y0 ((if Y1L l1 = 0 then (if ord30 l1 = true then (if l1.all (kno30 l1) = true then 0 else 6) else 5) else Y1L l1) = r) := ⟨by have := HH.out; unfold rchkP at this; rw [if_neg (by omega), if_neg d2] at this; exact this⟩
  have HN : Y0 (l1.length ≤ 512) := ⟨by omega⟩
  clear HH d0 d1 d2
  go_wp2
  go_loopg [25] l1.length (fun kq v25 W => ∃ (i : Nat), v25 = .int .i64 (i : Int) ∧ Y0 (i + kq = l1.length) ∧ Y0 (Y1L l1 = Y1L (l1.drop i)) ∧ Y0 (W.heap[g0]? = some (.cells #[.int .i64 a0, .slice A1 l1.length c1] 24 (0, 0))) ∧ Y0 (Below w.heap.size w W))
  case atStart => exact ⟨0, rfl, ⟨by omega⟩, ⟨by rw [List.drop_zero]⟩, B0, HB⟩
  case round =>
    clear HB B0 hc0
    obtain ⟨i, rfl, HK, HS, B0, HB⟩ := hrel
    have hc0 := Y2 B0.out
    cases gk with
    | succ k1 =>
      have hi : i < l1.length := by have := HK.out; omega
      have hlt : decide (i < l1.length) = true := by simp; exact hi
      obtain ⟨adx, e0x, hx0, hx1, hx2, hx3, hx4, hx5, hx6, hx7, hx8, hx9, hx10, hx11, hx12⟩ := Y1i HR.out (i : Int) (by omega) (by omega)
      cases e0x
      rw [Int.toNat_natCast] at hx0 hx1 hx2 hx3 hx4 hx5 hx6 hx7 hx8 hx9 hx10 hx11 hx12
      rw [Y1l hi] at hx0 hx1 hx2 hx3 hx4 hx5 hx6 hx7 hx8 hx9 hx10 hx11 hx12
      replace hx0 := (HB.out.cell (World.block_lt_of_cell? w _ hx0)).trans hx0
      replace hx1 := (HB.out.cell (World.block_lt_of_cell? w _ hx1)).trans hx1
      replace hx2 := (HB.out.cell (World.block_lt_of_cell? w _ hx2)).trans hx2
      replace hx3 := (HB.out.cell (World.block_lt_of_cell? w _ hx3)).trans hx3
      replace hx4 := (HB.out.cell (World.block_lt_of_cell? w _ hx4)).trans hx4
      replace hx5 := (HB.out.cell (World.block_lt_of_cell? w _ hx5)).trans hx5
      replace hx6 := (HB.out.cell (World.block_lt_of_cell? w _ hx6)).trans hx6
      replace hx7 := (HB.out.cell (World.block_lt_of_cell? w _ hx7)).trans hx7
      replace hx8 := (HB.out.cell (World.block_lt_of_cell? w _ hx8)).trans hx8
      replace hx9 := (HB.out.cell (World.block_lt_of_cell? w _ hx9)).trans hx9
      replace hx10 := (HB.out.cell (World.block_lt_of_cell? w _ hx10)).trans hx10
      replace hx11 := (HB.out.cell (World.block_lt_of_cell? w _ hx11)).trans hx11
      replace hx12 := (HB.out.cell (World.block_lt_of_cell? w _ hx12)).trans hx12
      have q0 : (0 ≤ ((i : Nat) : Int)) = True := by simp
      have q1 : (((i : Nat) : Int) < (l1.length : Int)) = True := by simp; exact hi
      have HD := Y0.mk (List.drop_eq_getElem_cons hi)
      generalize l1[i]'hi = x at hx0 hx1 hx2 hx3 hx4 hx5 hx6 hx7 hx8 hx9 hx10 hx11 hx12 HD
      have HI := Y0.mk hi
      obtain ⟨v, hv⟩ : ∃ v, v = chk30 x := ⟨_, rfl⟩
      have HQ := Y0.mk (Y4o 0 x.f0.f0 x.f0.f1 x.f1 x.f2.f0 x.f2.f1 x.f3 x.f4.f0 x.f4.f1 x.f4.f2 x.f4.f3 x.f4.f4 x.f4.f5 x.f4.f6)
      rw [show chkE x.f0.f0 x.f0.f1 x.f1 x.f2.f0 x.f2.f1 x.f3 x.f4.f0 x.f4.f1 x.f4.f2 x.f4.f3 x.f4.f4 x.f4.f5 x.f4.f6 = v from hv.symm] at HQ
      have HV2 := Y0.mk hv
      clear hi hv
      go_upto_region 8 with (fail)
      have HB1 : Y0 (Below w.heap.size w (wr.alloc (.cells #[.int .i64 x.f0.f0, .int .i64 x.f0.f1, .int .i64 x.f1, .int .i64 x.f2.f0, .int .i64 x.f2.f1, .bool x.f3, .int .i64 x.f4.f0, .int .i64 x.f4.f1, .int .i64 x.f4.f2, .int .i64 x.f4.f3, .int .i64 x.f4.f4, .int .i64 x.f4.f5, .int .i64 x.f4.f6] 30))) := ⟨Ys HB.out _⟩
      have B01 : Y0 ((wr.alloc (.cells #[.int .i64 x.f0.f0, .int .i64 x.f0.f1, .int .i64 x.f1, .int .i64 x.f2.f0, .int .i64 x.f2.f1, .bool x.f3, .int .i64 x.f4.f0, .int .i64 x.f4.f1, .int .i64 x.f4.f2, .int .i64 x.f4.f3, .int .i64 x.f4.f4, .int .i64 x.f4.f5, .int .i64 x.f4.f6] 30)).heap[g0]? = some (.cells #[.int .i64 a0, .slice (some adx) l1.length c1] 24 (0, 0))) := ⟨Y4 B0.out _⟩
      have B4 : Y0 ((wr.alloc (.cells #[.int .i64 x.f0.f0, .int .i64 x.f0.f1, .int .i64 x.f1, .int .i64 x.f2.f0, .int .i64 x.f2.f1, .bool x.f3, .int .i64 x.f4.f0, .int .i64 x.f4.f1, .int .i64 x.f4.f2, .int .i64 x.f4.f3, .int .i64 x.f4.f4, .int .i64 x.f4.f5, .int .i64 x.f4.f6] 30)).heap[wr.heap.size]? = some (.cells #[.int .i64 x.f0.f0, .int .i64 x.f0.f1, .int .i64 x.f1, .int .i64 x.f2.f0, .int .i64 x.f2.f1, .bool x.f3, .int .i64 x.f4.f0, .int .i64 x.f4.f1, .int .i64 x.f4.f2, .int .i64 x.f4.f3, .int .i64 x.f4.f4, .int .i64 x.f4.f5, .int .i64 x.f4.f6] 30 (0, 0))) := ⟨Y1f _ _⟩
      generalize (wr.alloc (.cells #[.int .i64 x.f0.f0, .int .i64 x.f0.f1, .int .i64 x.f1, .int .i64 x.f2.f0, .int .i64 x.f2.f1, .bool x.f3, .int .i64 x.f4.f0, .int .i64 x.f4.f1, .int .i64 x.f4.f2, .int .i64 x.f4.f3, .int .i64 x.f4.f4, .int .i64 x.f4.f5, .int .i64 x.f4.f6] 30)) = W1 at HB1 B01 B4 ⊢
      generalize wr.heap.size = g4 at B4 ⊢
      clear HB B0 hc0 hx0 hx1 hx2 hx3 hx4 hx5 hx6 hx7 hx8 hx9 hx10 hx11 hx12
      have hc4 := Y2 B4.out
      by_cases hz : v = 0
      · subst hz
        have HS2 : Y0 (Y1L l1 = Y1L (l1.drop (i + 1))) := ⟨by rw [HS.out, HD.out]; show (if chk30 x = 0 then _ else _) = _; rw [if_pos HV2.out.symm]⟩
        go_wp2_with (first | ((with_reducible refine Yc (f := 54) rfl ?_); refine YO (some 30) rfl rfl Try.func54 (by kernel_rfl) rfl #[.agg #[.int .i64 x.f0.f0, .int .i64 x.f0.f1, .int .i64 x.f1, .int .i64 x.f2.f0, .int .i64 x.f2.f1, .bool x.f3, .int .i64 x.f4.f0, .int .i64 x.f4.f1, .int .i64 x.f4.f2, .int .i64 x.f4.f3, .int .i64 x.f4.f4, .int .i64 x.f4.f5, .int .i64 x.f4.f6]] rfl (by (try simp only [List.map_toArray, List.map_cons, List.map_nil]); first | done | (go_simp; done) | rfl) ?_; refine (Yq.calls _ _ _ _ _ _ _ _ _ _ _ _ _ _ _ _ HQ.out).mono ?_; rintro e w2 ⟨rfl, hb⟩; refine ⟨_, rfl, ?_⟩; have HB2 := Y0.mk (Y3 (hU HB1.out) hb); have B02 := Y0.mk (Y1 B01.out hb); clear hb))
        go_roundg k1
        case measure => have := HK.out; omega
        case rel => exact ⟨i + 1, by first | (simp; done) | (simp; unfold wrap64; have := HN.out; have := HI.out; omega), ⟨by have := HK.out; omega⟩, HS2, B02, HB2⟩
      · have hr : v = r := by
          have h := HX.out
          have h3 : Y1L l1 = v := by rw [HS.out, HD.out]; show (if chk30 x = 0 then _ else _) = _; rw [if_neg (by rw [← HV2.out]; exact hz), HV2.out]
          rw [h3, if_neg hz] at h
          exact h
        subst hr
        have hz2 : (v != 0) = true := by simp; exact hz
        go_wp2_with (first | ((with_reducible refine Yc (f := 54) rfl ?_); refine YO (some 30) rfl rfl Try.func54 (by kernel_rfl) rfl #[.agg #[.int .i64 x.f0.f0, .int .i64 x.f0.f1, .int .i64 x.f1, .int .i64 x.f2.f0, .int .i64 x.f2.f1, .bool x.f3, .int .i64 x.f4.f0, .int .i64 x.f4.f1, .int .i64 x.f4.f2, .int .i64 x.f4.f3, .int .i64 x.f4.f4, .int .i64 x.f4.f5, .int .i64 x.f4.f6]] rfl (by (try simp only [List.map_toArray, List.map_cons, List.map_nil]); first | done | (go_simp; done) | rfl) ?_; refine (Yq.calls _ _ _ _ _ _ _ _ _ _ _ _ _ _ _ _ HQ.out).mono ?_; rintro e w2 ⟨rfl, hb⟩; refine ⟨_, rfl, ?_⟩; have HB2 := Y0.mk (Y3 (hU HB1.out) hb); have B02 := Y0.mk (Y1 B01.out hb); clear hb))
        (try rw [Exit.noGoto_ret])
        go_ret
        exact ⟨rfl, HB2.out⟩
    | zero =>
      have hi : i = l1.length := by have := HK.out; omega
      have hlt : decide (i < l1.length) = false := by simp; omega
      have H2 : Y0 ((if ord30 l1 = true then (if l1.all (kno30 l1) = true then 0 else 6) else 5) = r) := ⟨by have h := HX.out; rw [HS.out, hi, List.drop_length, if_pos (show Y1L [] = 0 from rfl)] at h; exact h⟩
      clear HX HS HK hi
      go_wp2
      clear hlt
      go_loopg [6] l1.length (fun kq v6 W => ∃ (i : Nat) (X : Int), v6 = .int .i64 X ∧ Y0 (X = (i : Int) + 1) ∧ Y0 (l1.length ≤ i + 1 + kq) ∧ Y0 (i ≤ l1.length) ∧ Y0 (ord30 l1 = ord30 (l1.drop i)) ∧ Y0 (W.heap[g0]? = some (.cells #[.int .i64 a0, .slice A1 l1.length c1] 24 (0, 0))) ∧ Y0 (Below w.heap.size w W))
      case atStart => exact ⟨0, 1, rfl, ⟨by omega⟩, ⟨by omega⟩, ⟨by omega⟩, ⟨by rw [List.drop_zero]⟩, B0, HB⟩
      case round =>
       clear HB B0 hc0
       obtain ⟨i, X, rfl, HX, HK, HI, HS, B0, HB⟩ := hrel
       have hc0 := Y2 B0.out
       by_cases hi : i + 1 < l1.length
       · have hlt : decide (X < (l1.length : Int)) = true := by have := HX.out; simp; omega
         have hi0 : i < l1.length := by omega
         have hX : X = ((i + 1 : Nat) : Int) := by have := HX.out; omega
         obtain ⟨J, hJ⟩ : ∃ J : Int, J = (i : Int) := ⟨_, rfl⟩
         have hwJ : wrap64 (X - 1) = J := by have := HN.out; unfold wrap64; omega
         have hX0 : 0 ≤ X := by omega
         have hX1 : X < (l1.length : Int) := by omega
         have hJ0 : 0 ≤ J := by omega
         have hJ1 : J < (l1.length : Int) := by omega
         obtain ⟨adx, e0x, hx0, hx1, hx2, hx3, hx4, hx5, hx6, hx7, hx8, hx9, hx10, hx11, hx12⟩ := Y1i HR.out J hJ0 hJ1
         cases e0x
         obtain ⟨ady, e0y, hy0, hy1, hy2, hy3, hy4, hy5, hy6, hy7, hy8, hy9, hy10, hy11, hy12⟩ := Y1i HR.out X hX0 hX1
         cases e0y
         have hx_ : Y8 l1 J = l1[i] := by rw [hJ]; exact Y1l hi0
         have hy_ : Y8 l1 X = l1[i + 1] := by rw [hX]; exact Y1l hi
         have HD := Y0.mk (List.drop_eq_getElem_cons hi0)
         have HD2 := Y0.mk (List.drop_eq_getElem_cons hi)
         rw [← hx_] at HD
         rw [← hy_] at HD2
         rw [show (i + 1 : Nat) = i + 1 from rfl] at HD2
         generalize Y8 l1 J = x at hx0 hx1 hx2 hx3 hx4 hx5 hx6 hx7 hx8 hx9 hx10 hx11 hx12 HD
         generalize Y8 l1 X = y at hy0 hy1 hy2 hy3 hy4 hy5 hy6 hy7 hy8 hy9 hy10 hy11 hy12 HD2
         have hwx0 := hx0
         have hwx1 := hx1
         have hwy0 := hy0
         have hwy1 := hy1
         replace hx0 := (HB.out.cell (World.block_lt_of_cell? w _ hx0)).trans hx0
         replace hx1 := (HB.out.cell (World.block_lt_of_cell? w _ hx1)).trans hx1
         replace hy0 := (HB.out.cell (World.block_lt_of_cell? w _ hy0)).trans hy0
         replace hy1 := (HB.out.cell (World.block_lt_of_cell? w _ hy1)).trans hy1
         clear hx2 hx3 hx4 hx5 hx6 hx7 hx8 hx9 hx10 hx11 hx12 hy2 hy3 hy4 hy5 hy6 hy7 hy8 hy9 hy10 hy11 hy12
         have q0 : (0 ≤ J) = True := eq_true hJ0
         have q1 : (J < (l1.length : Int)) = True := eq_true hJ1
         have q2 : (0 ≤ X) = True := eq_true hX0
         have q3 : (X < (l1.length : Int)) = True := eq_true hX1
         have HXi := Y0.mk hX
         clear hX0 hX1 hJ0 hJ1 hX hJ hx_ hy_ hi0
         obtain ⟨b, hb0⟩ : ∃ b, b = YV x.f0 y.f0 := ⟨_, rfl⟩
         have HQ := Y0.mk (Y1F x.f0.f0 x.f0.f1 y.f0.f0 y.f0.f1)
         rw [show lessP x.f0.f0 x.f0.f1 y.f0.f0 y.f0.f1 = b from hb0.symm] at HQ
         have HS2 : Y0 (ord30 l1 = (b && ord30 (l1.drop (i + 1)))) := ⟨by rw [HS.out, HD.out, HD2.out]; show (YV x.f0 y.f0 && _) = _; rw [hb0]⟩
         have HI2 := Y0.mk hi
         clear hb0 hi
         go_upto_region 15 with (fail)
         refine Y1d (n := 15) (S := fun w' => w'.cell? ⟨g0, 1, none⟩ = some (.slice (some adx) l1.length c1) ∧ w'.cell? (adx.add (J.toNat * 13)) = some (.int .i64 x.f0.f0) ∧ w'.cell? ⟨(adx.add (J.toNat * 13)).block, (adx.add (J.toNat * 13)).off + 1, none⟩ = some (.int .i64 x.f0.f1) ∧ w'.cell? (adx.add (X.toNat * 13)) = some (.int .i64 y.f0.f0) ∧ w'.cell? ⟨(adx.add (X.toNat * 13)).block, (adx.add (X.toNat * 13)).off + 1, none⟩ = some (.int .i64 y.f0.f1)) (ds := []) (bs 15 0) rfl rfl (by kernel_rfl) ⟨(Y2 B0.out 1).trans rfl, hx0, hx1, hy0, hy1⟩ (fun hHeld => ?_)
         refine puA 0 42 (bs 15 1) ?_
         refine tkA 1 43 (bs 15 3) hHeld ?_ (hy := Or.inl ⟨by rfl, by rintro w' ⟨s0, s1, s2, s3, s4⟩; go_simp; with_reducible rfl⟩)
         refine puA 2 44 (bs 15 7) ?_
         refine puA 3 45 (bs 15 15) ?_
         refine puA 4 46 (bs 15 31) ?_
         refine puA 5 47 (bs 15 63) ?_
         refine tkA 6 48 (bs 15 127) hHeld ?_ (hy := Or.inl ⟨by rfl, by rintro w' ⟨s0, s1, s2, s3, s4⟩; go_simp; with_reducible rfl⟩)
         refine puA 7 49 (bs 15 255) ?_
         refine tkA 8 50 (bs 15 511) hHeld ?_ (hy := Or.inl ⟨by rfl, by rintro w' ⟨s0, s1, s2, s3, s4⟩; go_simp; with_reducible rfl⟩)
         refine puA 9 51 (bs 15 1023) ?_
         refine puA 10 52 (bs 15 2047) ?_
         refine puA 11 53 (bs 15 4095) ?_
         refine tkA 12 54 (bs 15 8191) hHeld ?_ (hy := Or.inl ⟨by rfl, by rintro w' ⟨s0, s1, s2, s3, s4⟩; go_simp; with_reducible rfl⟩)
         refine one_ (i := 13) (N := some 55) (bs 15 16383) rfl rfl (by kernel_rfl) (by decide) (fun K hK => ?_)
         refine goes_ Try.func75 (by kernel_rfl) rfl #[.agg #[.int .i64 x.f0.f0, .int .i64 x.f0.f1], .agg #[.int .i64 y.f0.f0, .int .i64 y.f0.f1]] (by rfl) rfl rfl (by (try simp only [List.map_toArray, List.map_cons, List.map_nil]); first | done | (go_simp; done) | rfl) ?_
         refine (YW.calls _ _ _ _ b _ HQ.out).mono ?_
         rintro e w2 ⟨rfl, hb⟩
         refine ⟨_, rfl, ?_⟩
         have HB2 := Y0.mk (Y3 (hU HB.out) hb)
         have B02 := Y0.mk (Y1 (bU B0.out) hb)
         clear hb
         refine hK.out _ _ ⟨(Y2 B02.out 1).trans rfl, hbC HB2 hwx0, hbC HB2 hwx1, hbC HB2 hwy0, hbC HB2 hwy1⟩ (fun hHeld => ?_)
         clear hK K
         refine nmA 55 ?_
         refine puA 14 56 (bs 15 32767) ?_
         refine done_ (by kernel_rfl) ?_
         clear HB B0 hc0 hwx0 hwx1 hwy0 hwy1 hx0 hx1 hy0 hy1
         have hc0 := Y2 B02.out
         cases b
         · have hr : r = 5 := by
             have h := H2.out
             rw [HS2.out, Bool.false_and, if_neg (by decide)] at h
             exact h.symm
           subst hr
           go_wp2
           (try rw [Exit.noGoto_ret])
           go_ret
           exact ⟨rfl, HB2.out⟩
         · go_wp2
           cases gk with
           | zero => have := HK.out; have := HI2.out; omega
           | succ k1 =>
             go_roundg k1
             case measure => have := HK.out; omega
             case rel => exact ⟨i + 1, _, rfl, ⟨by have := HXi.out; have := HN.out; have := HI2.out; unfold wrap64; omega⟩, ⟨by have := HK.out; omega⟩, ⟨by have := HI2.out; omega⟩, ⟨by rw [HS2.out, Bool.true_and]⟩, B02, HB2⟩
       · have hlt : decide (X < (l1.length : Int)) = false := by have := HX.out; simp; omega
         have h1 : ord30 l1 = true := by
           rw [HS.out]
           have : (l1.drop i).length ≤ 1 := by rw [List.length_drop]; omega
           match hd : l1.drop i, this with
           | [], _ => rfl
           | [a], _ => rfl
           | a :: b :: l, h => simp at h
         have H3 : Y0 ((if l1.all (kno30 l1) = true then 0 else 6) = r) := ⟨by rw [← H2.out, if_pos h1]⟩
         clear HX HK HI HS H2 h1 hi
         go_wp2_with (first | ((with_reducible refine Yc (f := 57) rfl ?_); refine YO (some 59) rfl rfl Try.func57 (by kernel_rfl) rfl #[.slice A1 l1.length c1] rfl (by (try simp only [List.map_toArray, List.map_cons, List.map_nil]); first | done | (go_simp; done) | rfl) ?_; refine (Y1X A1 c1 l1 _ (Kd.C_below HR.out (hU HB.out)) HC.out (by have := HN.out; omega) HV.out).mono ?_; rintro e w2 ⟨B, D, rfl, ho, hs, hB, hb⟩; refine ⟨_, rfl, ?_⟩; have HO := Y0.mk ho; have HS := Y0.mk hs; have HB2 := Y0.mk (Y3 (hU HB.out) hb); have B02 := Y0.mk (Y1 (bU B0.out) hb); clear ho hs hb hB; clear HB B0 hc0; have hc0 := Y2 B02.out))
         clear hlt
         go_loopg [63] l1.length (fun kq v63 W => ∃ (i : Nat), v63 = .int .i64 (i : Int) ∧ Y0 (i + kq = l1.length) ∧ Y0 (l1.all (kno30 l1) = (l1.drop i).all (kno30 l1)) ∧ Y0 (World.ownsMap (H := Unit) W Try.prog 82 (plainElem Try.prog 4) B l1.length D) ∧ Y0 (W.heap[g0]? = some (.cells #[.int .i64 a0, .slice A1 l1.length c1] 24 (0, 0))) ∧ Y0 (Below w.heap.size w W))
         case atStart => exact ⟨0, rfl, ⟨by omega⟩, ⟨by rw [List.drop_zero]⟩, HO, B02, HB2⟩
         case round =>
          clear HB2 B02 hc0 HO
          obtain ⟨i, rfl, HK, HT, HO, B0, HB⟩ := hrel
          have hc0 := Y2 B0.out
          cases gk with
          | zero =>
            have hi : i = l1.length := by have := HK.out; omega
            have hlt : decide (i < l1.length) = false := by simp; omega
            have hr : r = 0 := by
              have h := H3.out
              rw [HT.out, hi, List.drop_length, if_pos (show ([] : List S30).all (kno30 l1) = true from rfl)] at h
              exact h.symm
            subst hr
            clear HK HT hi
            go_wp2
            go_ret
            exact ⟨rfl, HB.out⟩
          | succ k1 =>
            have hi : i < l1.length := by have := HK.out; omega
            have hlt : decide (i < l1.length) = true := by simp; exact hi
            obtain ⟨adx, e0x, hx0, hx1, hx2, hx3, hx4, hx5, hx6, hx7, hx8, hx9, hx10, hx11, hx12⟩ := Y1i HR.out (i : Int) (by omega) (by omega)
            cases e0x
            rw [Int.toNat_natCast] at hx0 hx1 hx2 hx3 hx4 hx5 hx6 hx7 hx8 hx9 hx10 hx11 hx12
            rw [Y1l hi] at hx0 hx1 hx2 hx3 hx4 hx5 hx6 hx7 hx8 hx9 hx10 hx11 hx12
            replace hx0 := (HB.out.cell (World.block_lt_of_cell? w _ hx0)).trans hx0
            replace hx1 := (HB.out.cell (World.block_lt_of_cell? w _ hx1)).trans hx1
            replace hx2 := (HB.out.cell (World.block_lt_of_cell? w _ hx2)).trans hx2
            replace hx3 := (HB.out.cell (World.block_lt_of_cell? w _ hx3)).trans hx3
            replace hx4 := (HB.out.cell (World.block_lt_of_cell? w _ hx4)).trans hx4
            replace hx5 := (HB.out.cell (World.block_lt_of_cell? w _ hx5)).trans hx5
            replace hx6 := (HB.out.cell (World.block_lt_of_cell? w _ hx6)).trans hx6
            replace hx7 := (HB.out.cell (World.block_lt_of_cell? w _ hx7)).trans hx7
            replace hx8 := (HB.out.cell (World.block_lt_of_cell? w _ hx8)).trans hx8
            replace hx9 := (HB.out.cell (World.block_lt_of_cell? w _ hx9)).trans hx9
            replace hx10 := (HB.out.cell (World.block_lt_of_cell? w _ hx10)).trans hx10
            replace hx11 := (HB.out.cell (World.block_lt_of_cell? w _ hx11)).trans hx11
            replace hx12 := (HB.out.cell (World.block_lt_of_cell? w _ hx12)).trans hx12
            have q0 : (0 ≤ ((i : Nat) : Int)) = True := by simp
            have q1 : (((i : Nat) : Int) < (l1.length : Int)) = True := by simp; exact hi
            have HD := Y0.mk (List.drop_eq_getElem_cons hi)
            have HE := Y0.mk (HV.out _ (List.getElem_mem hi))
            generalize l1[i]'hi = x at hx0 hx1 hx2 hx3 hx4 hx5 hx6 hx7 hx8 hx9 hx10 hx11 hx12 HD HE
            have HI := Y0.mk hi
            obtain ⟨b, hb0⟩ : ∃ b, b = kno30 l1 x := ⟨_, rfl⟩
            have HAT : Y0 (D.atKey (kS x.f1 x.f2.f0 x.f2.f1) (.lit (.bool false)) = .lit (.bool b)) := ⟨by rw [HS.out x.f1 x.f2.f0 x.f2.f1 HE.out.1 HE.out.2.1 HE.out.2.2, hb0]; rfl⟩
            have HS2 : Y0 (l1.all (kno30 l1) = (b && (l1.drop (i + 1)).all (kno30 l1))) := ⟨by rw [HT.out, HD.out, List.all_cons, hb0]⟩
            clear hi hb0
            go_upto_region 21 with (fail)
            have HB1 : Y0 (Below w.heap.size w (wr.alloc (.cells #[.int .i64 x.f0.f0, .int .i64 x.f0.f1, .int .i64 x.f1, .int .i64 x.f2.f0, .int .i64 x.f2.f1, .bool x.f3, .int .i64 x.f4.f0, .int .i64 x.f4.f1, .int .i64 x.f4.f2, .int .i64 x.f4.f3, .int .i64 x.f4.f4, .int .i64 x.f4.f5, .int .i64 x.f4.f6] 30))) := ⟨Ys HB.out _⟩
            have B01 : Y0 ((wr.alloc (.cells #[.int .i64 x.f0.f0, .int .i64 x.f0.f1, .int .i64 x.f1, .int .i64 x.f2.f0, .int .i64 x.f2.f1, .bool x.f3, .int .i64 x.f4.f0, .int .i64 x.f4.f1, .int .i64 x.f4.f2, .int .i64 x.f4.f3, .int .i64 x.f4.f4, .int .i64 x.f4.f5, .int .i64 x.f4.f6] 30)).heap[g0]? = some (.cells #[.int .i64 a0, .slice (some adx) l1.length c1] 24 (0, 0))) := ⟨Y4 B0.out _⟩
            have B9 : Y0 ((wr.alloc (.cells #[.int .i64 x.f0.f0, .int .i64 x.f0.f1, .int .i64 x.f1, .int .i64 x.f2.f0, .int .i64 x.f2.f1, .bool x.f3, .int .i64 x.f4.f0, .int .i64 x.f4.f1, .int .i64 x.f4.f2, .int .i64 x.f4.f3, .int .i64 x.f4.f4, .int .i64 x.f4.f5, .int .i64 x.f4.f6] 30)).heap[wr.heap.size]? = some (.cells #[.int .i64 x.f0.f0, .int .i64 x.f0.f1, .int .i64 x.f1, .int .i64 x.f2.f0, .int .i64 x.f2.f1, .bool x.f3, .int .i64 x.f4.f0, .int .i64 x.f4.f1, .int .i64 x.f4.f2, .int .i64 x.f4.f3, .int .i64 x.f4.f4, .int .i64 x.f4.f5, .int .i64 x.f4.f6] 30 (0, 0))) := ⟨Y1f _ _⟩
            have HO1 : Y0 (World.ownsMap (H := Unit) (wr.alloc (.cells #[.int .i64 x.f0.f0, .int .i64 x.f0.f1, .int .i64 x.f1, .int .i64 x.f2.f0, .int .i64 x.f2.f1, .bool x.f3, .int .i64 x.f4.f0, .int .i64 x.f4.f1, .int .i64 x.f4.f2, .int .i64 x.f4.f3, .int .i64 x.f4.f4, .int .i64 x.f4.f5, .int .i64 x.f4.f6] 30)) Try.prog 82 (plainElem Try.prog 4) B l1.length D) := ⟨HO.out.alloc _⟩
            generalize (wr.alloc (.cells #[.int .i64 x.f0.f0, .int .i64 x.f0.f1, .int .i64 x.f1, .int .i64 x.f2.f0, .int .i64 x.f2.f1, .bool x.f3, .int .i64 x.f4.f0, .int .i64 x.f4.f1, .int .i64 x.f4.f2, .int .i64 x.f4.f3, .int .i64 x.f4.f4, .int .i64 x.f4.f5, .int .i64 x.f4.f6] 30)) = W1 at HB1 B01 B9 HO1 ⊢
            generalize wr.heap.size = g9 at B9 ⊢
            clear HB B0 hc0 HO hx0 hx1 hx2 hx3 hx4 hx5 hx6 hx7 hx8 hx9 hx10 hx11 hx12
            have hc9 := Y2 B9.out
            cases b
            · have hr : r = 6 := by
                have h := H3.out
                rw [HS2.out, Bool.false_and, if_neg (by decide)] at h
                exact h.symm
              subst hr
              go_wp2_with (first | ((with_reducible refine Ye (N := 73) rfl ?_); refine Y1V _ rfl _ _ 79 rfl 82 4 lawS Try.underlying79 Try.underlying4 (zeroB _) B l1.length D rfl HO1.out _ _ rfl (Y1x HE.out.1 HE.out.2.1 HE.out.2.2) _ HAT.out ?_))
              (try rw [Exit.noGoto_ret])
              go_ret
              exact ⟨rfl, HB1.out⟩
            · have HT2 : Y0 (l1.all (kno30 l1) = (l1.drop (i + 1)).all (kno30 l1)) := ⟨by rw [HS2.out, Bool.true_and]⟩
              go_wp2_with (first | ((with_reducible refine Ye (N := 73) rfl ?_); refine Y1V _ rfl _ _ 79 rfl 82 4 lawS Try.underlying79 Try.underlying4 (zeroB _) B l1.length D rfl HO1.out _ _ rfl (Y1x HE.out.1 HE.out.2.1 HE.out.2.2) _ HAT.out ?_))
              go_roundg k1
              case measure => have := HK.out; omega
              case rel => exact ⟨i + 1, by first | (simp; done) | (simp; unfold wrap64; have := HN.out; have := HI.out; omega), ⟨by have := HK.out; omega⟩, HT2, HO1, B01, HB1⟩
end Go.Proofs.Yteopkkoblbmggaa.P
end

/- Texts of this claim in one: P12; no condition. -/
import Derived.Test.YteopkkoblbmggaaYAD
import Derived.Test.YteopkkoblbmggaaYAH
section
namespace Go.Proofs.Yteopkkoblbmggaa.P
open Go.RowKit Go.Proofs.YteopkkoblbmggaaW.PrintWords Go.Proofs.YteopkkoblbmggaaW.PrintLast Go.Proofs.YteopkkoblbmggaaW.PrintMore
attribute [local go_sem] max2_int min2_int max_two min_two max_three min_three max_four min_four
set_option linter.unusedVariables false
set_option linter.unusedSimpArgs false
attribute [local go_sem high] eqA26
/-! ### replica_place: function 56 -/
def replica_place.l0 : Nat → List (S30) → Int → Int → Int → Option (Int × Bool)
 | 0, _, _, _, _ => none
 | k + 1, x0, x6, x128000, x128001 => if x6 < (x0.length : Int) then (if 0 ≤ x6 then ((edits_Less.f ((rd_T30 x0 x6).f0.f0) ((rd_T30 x0 x6).f0.f1) x128000 x128001).bind fun t129 => (if t129 = true then (replica_place.l0 k x0 (wrap64 (x6 + 1)) x128000 x128001) else (some (x6, (((rd_T30 x0 x6).f0.f0) == x128000 && (((rd_T30 x0 x6).f0.f1) == x128001)))))) else (none)) else (some (x6, false))
def replica_place.f (k : Nat) (l0 : List (S30)) (a1_0 : Int) (a1_1 : Int) : Option (Int × Bool) := replica_place.l0 k l0 0 a1_0 a1_1
theorem replica_place.mono_l : ∀ k, (∀ y0 y1 y2 y3, LeO (replica_place.l0 k y0 y1 y2 y3) (replica_place.l0 (k + 1) y0 y1 y2 y3))
 | 0 => fun _ _ _ _ r h => by simp [replica_place.l0] at h
 | k + 1 => by
  have ih0 := replica_place.mono_l k
  ·intro y0 y1 y2 y3
   unfold replica_place.l0
   repeat' first
   | (with_reducible exact ih0 _ _ _ _)
   | (with_reducible exact LeO.refl _)
   | (with_reducible exact LeO.none _)
   | (with_reducible refine LeO.ite ?_ ?_)
   | (with_reducible refine LeO.bind ?_ (fun _ => ?_))
   | exact ih0 _ _ _ _
   | exact LeO.none _
   | refine LeO.ite ?_ ?_
   | refine LeO.bind ?_ (fun _ => ?_)
theorem replica_place.mono : ∀ a0 a1 a2 k, LeO (replica_place.f k a0 a1 a2) (replica_place.f (k + 1) a0 a1 a2) := by
 intro a0 a1 a2 k
 have ih0 := replica_place.mono_l k
 unfold replica_place.f
 repeat' first
   | (with_reducible exact ih0 _ _ _ _)
   | (with_reducible exact LeO.refl _)
   | (with_reducible exact LeO.none _)
   | (with_reducible refine LeO.ite ?_ ?_)
   | (with_reducible refine LeO.bind ?_ (fun _ => ?_))
   | exact ih0 _ _ _ _
   | exact LeO.none _
   | refine LeO.ite ?_ ?_
   | refine LeO.bind ?_ (fun _ => ?_)
def replica_place.T2 : Bool × List (List Nat × List Nat) := (true, [([], []), ([], []), ([1], [1]), ([0, 2], [0, 2]), ([3], [3]), ([4], [4]), ([4], [4]), ([5, 6, 4], [4, 5, 6]), ([7, 4], [4, 7]), ([8, 4], [4, 8]), ([4], [4]), ([9, 10, 4, 4], [4, 9, 10]), ([4, 11], [4, 11])])
def replica_place.B2 : List Nat := [0, 0, 2, 7, 15, 31, 31, 127, 255, 511, 31, 2047, 4095]
theorem replica_place.tab2 : rtab .any (opsOf Try.f56 2) = replica_place.T2 := by kernel_rfl
theorem replica_place.bits2 : waitsOk replica_place.T2.2 replica_place.B2 = true := by kernel_rfl
def replica_place.T4 : Bool × List (List Nat × List Nat) := (true, [([], []), ([], []), ([], []), ([2], [2]), ([1, 3], [1, 3]), ([4], [4]), ([5], [5]), ([5], [5]), ([6, 7, 5], [5, 6, 7]), ([8, 5], [5, 8]), ([9, 5], [5, 9]), ([5], [5]), ([10, 11, 5], [5, 10, 11]), ([5, 12], [5, 12]), ([0, 5, 0], [0]), ([13, 14, 0, 1, 2, 3, 4, 5, 6, 7, 8, 9, 10, 11, 12, 13, 14], [13])])
def replica_place.B4 : List Nat := [0, 0, 0, 4, 14, 30, 62, 62, 254, 510, 1022, 62, 4094, 8190, 63, 32767]
theorem replica_place.tab4 : rtab .any (opsOf Try.f56 4) = replica_place.T4 := by kernel_rfl
theorem replica_place.bits4 : waitsOk replica_place.T4.2 replica_place.B4 = true := by kernel_rfl
set_option maxHeartbeats 8000000 in
set_option maxRecDepth 100000 in
theorem replica_place.calls (k : Nat) (A0 : Option Addr) (c0 : Nat) (l0 : List (S30)) (a1_0 : Int) (a1_1 : Int) (r1 : Int) (r2 : Bool) (w : World) (hr0 : Kd.C k30 w A0 l0.length l0) (hc0 : l0.length ≤ c0) (h : replica_place.f k l0 a1_0 a1_1 = some (r1, r2)) :
  Calls Try.prog 56 #[.slice A0 l0.length c0, .agg #[.int .i64 a1_0, .int .i64 a1_1]] w fun e w' => e = .returned (.tuple #[.int .i64 r1, .bool r2]) ∧ Below w.heap.size w w' := by
 have hu26 := Try.underlying26
 have HR0 := Aside0.mk hr0
 have HC0 := Aside0.mk hc0
 clear hr0 hc0
 have HB := Aside0.mk (Below.refl w.heap.size w)
 have H : (replica_place.l0 k l0 0 a1_0 a1_1) = some (r1, r2) := h
 clear h
 have H' := Aside0.mk H
 clear H
 go_enter Try.func56, Try.ntmps56
 go_wp2_with (first | ((with_reducible refine gate_dst (N := 3) rfl ?_); refine box_event ?hg (N := 3) ?hd (cs := #[.int .i64 a1_0, .int .i64 a1_1]) (t := 26) ?hr ?_; (case hd => rfl); (case hg => rfl); (case hr => first | (go_simp; done) | (go_simp; rfl)); intro gb127 hg w3 hbox hb; have n0_ := Aside0.mk (below_step (hU HB.out) hb); have n1_ := Aside0.mk (hbox); have n2_ := Aside0.mk ((by rw [hg]; exact (below_size (hU HB.out)) : w.heap.size ≤ gb127)); have n3_ := Aside0.mk ((by rw [hg]; exact (below_size (hU HB.out)) : w.heap.size ≤ gb127)); clear HB; have HB := n0_; have BK127 := n1_; have GW127 := n2_; have GE127 := n3_; clear n0_ n1_ n2_ n3_; clear hb hbox hg))
 go_loopg [6] k (fun kq v6 w' => ∃ (x6_1 : Int), v6 = .int .i64 x6_1 ∧ Aside0 (replica_place.l0 kq l0 x6_1 a1_0 a1_1 = some (r1, r2)) ∧ Aside0 (kq ≤ k) ∧ Aside0 (w'.heap[gb127]? = some (.cells #[.int .i64 a1_0, .int .i64 a1_1] 26 (0, 0))) ∧ Aside0 (Below w.heap.size w w'))
 case atStart => exact ⟨(0), (by first | rfl | (simp; done) | (simp [*]; done)), H', ⟨Nat.le_refl _⟩, ⟨by (with_reducible repeat (first | refine blk_drewN ?_ _ | refine blk_drew ?_ | refine blk_alloc ?_ _)); exact BK127.out⟩, ⟨hU HB.out⟩⟩
 case round =>
  clear H'
  try clear p2
  obtain ⟨x6_1, rfl, HA, HK1, BK127, HB⟩ := hrel
  cases gk with
  | zero => exact absurd HA.out (by simp [replica_place.l0])
  | succ k1 =>
   have H := HA.out
   clear HA
   simp only [replica_place.l0] at H
   by_cases c4 : x6_1 < (l0.length : Int)
   ·rw [if_pos c4] at H
    have c4b0 : decide (x6_1 < (l0.length : Int)) = true := decide_eq_true c4
    clear c4
    by_cases c5 : 0 ≤ x6_1
    rotate_left
    ·rw [if_neg c5] at H
     exact absurd H (by simp)
    rw [if_pos c5] at H
    have c5b0 : decide (0 ≤ x6_1) = true := decide_eq_true c5
    clear c5
    replace H := Option.bind_eq_some_iff.mp H
    obtain ⟨t129, A60, H⟩ := H
    try dsimp only at H
    have A6 := Aside0.mk A60
    clear A60
    by_cases c7 : t129 = true
    ·subst c7
     have H1 : (replica_place.l0 k1 l0 (wrap64 (x6_1 + 1)) a1_0 a1_1) = some (r1, r2) := by rw [if_pos rfl] at H; exact H
     clear H
     have H := H1
     clear H1
     have H' := Aside0.mk H
     clear H
     try go_wp2
     replace BK127 := Aside0.mk (blk_drew BK127.out)
     replace HB := Aside0.mk (below_drew1 HB.out)
     have p128 : 0 ≤ (x6_1 : Int) := of_decide_eq_true (by first | (with_reducible assumption) | assumption)
     have q128 : x6_1 < (l0.length : Int) := of_decide_eq_true (by first | (with_reducible assumption) | assumption)
     obtain ⟨ad128, e128, hx128_0, hx128_1, hx128_2, hx128_3, hx128_4, hx128_5, hx128_6, hx128_7, hx128_8, hx128_9, hx128_10, hx128_11, hx128_12⟩ := at_T30 HR0.out x6_1 p128 q128
     have hw128_12 := hx128_12
     have hw128_11 := hx128_11
     have hw128_10 := hx128_10
     have hw128_9 := hx128_9
     have hw128_8 := hx128_8
     have hw128_7 := hx128_7
     have hw128_6 := hx128_6
     have hw128_5 := hx128_5
     have hw128_4 := hx128_4
     have hw128_3 := hx128_3
     have hw128_2 := hx128_2
     have hw128_1 := hx128_1
     have hw128_0 := hx128_0
     cases e128
     replace hx128_0 := hbC HB hx128_0
     replace hx128_1 := hbC HB hx128_1
     replace hx128_2 := hbC HB hx128_2
     replace hx128_3 := hbC HB hx128_3
     replace hx128_4 := hbC HB hx128_4
     replace hx128_5 := hbC HB hx128_5
     replace hx128_6 := hbC HB hx128_6
     replace hx128_7 := hbC HB hx128_7
     replace hx128_8 := hbC HB hx128_8
     replace hx128_9 := hbC HB hx128_9
     replace hx128_10 := hbC HB hx128_10
     replace hx128_11 := hbC HB hx128_11
     replace hx128_12 := hbC HB hx128_12
     replace p128 := eq_true p128
     replace q128 := eq_true q128
     refine start_ (n := 13) (S := fun w' => w'.cell? ⟨gb127, 0, none⟩ = some (.int .i64 a1_0) ∧ w'.cell? ⟨gb127, 1, none⟩ = some (.int .i64 a1_1) ∧ w'.cell? (ad128.add ((x6_1).toNat * 13)) = some (.int .i64 ((rd_T30 l0 x6_1).f0.f0)) ∧ w'.cell? ⟨(ad128.add ((x6_1).toNat * 13)).block, (ad128.add ((x6_1).toNat * 13)).off + 1, none⟩ = some (.int .i64 ((rd_T30 l0 x6_1).f0.f1)) ∧ w'.cell? ⟨(ad128.add ((x6_1).toNat * 13)).block, (ad128.add ((x6_1).toNat * 13)).off + 2, none⟩ = some (.int .i64 ((rd_T30 l0 x6_1).f1)) ∧ w'.cell? ⟨(ad128.add ((x6_1).toNat * 13)).block, (ad128.add ((x6_1).toNat * 13)).off + 3, none⟩ = some (.int .i64 ((rd_T30 l0 x6_1).f2.f0)) ∧ w'.cell? ⟨(ad128.add ((x6_1).toNat * 13)).block, (ad128.add ((x6_1).toNat * 13)).off + 4, none⟩ = some (.int .i64 ((rd_T30 l0 x6_1).f2.f1)) ∧ w'.cell? ⟨(ad128.add ((x6_1).toNat * 13)).block, (ad128.add ((x6_1).toNat * 13)).off + 5, none⟩ = some (.bool ((rd_T30 l0 x6_1).f3)) ∧ w'.cell? ⟨(ad128.add ((x6_1).toNat * 13)).block, (ad128.add ((x6_1).toNat * 13)).off + 6, none⟩ = some (.int .i64 ((rd_T30 l0 x6_1).f4.f0)) ∧ w'.cell? ⟨(ad128.add ((x6_1).toNat * 13)).block, (ad128.add ((x6_1).toNat * 13)).off + 7, none⟩ = some (.int .i64 ((rd_T30 l0 x6_1).f4.f1)) ∧ w'.cell? ⟨(ad128.add ((x6_1).toNat * 13)).block, (ad128.add ((x6_1).toNat * 13)).off + 8, none⟩ = some (.int .i64 ((rd_T30 l0 x6_1).f4.f2)) ∧ w'.cell? ⟨(ad128.add ((x6_1).toNat * 13)).block, (ad128.add ((x6_1).toNat * 13)).off + 9, none⟩ = some (.int .i64 ((rd_T30 l0 x6_1).f4.f3)) ∧ w'.cell? ⟨(ad128.add ((x6_1).toNat * 13)).block, (ad128.add ((x6_1).toNat * 13)).off + 10, none⟩ = some (.int .i64 ((rd_T30 l0 x6_1).f4.f4)) ∧ w'.cell? ⟨(ad128.add ((x6_1).toNat * 13)).block, (ad128.add ((x6_1).toNat * 13)).off + 11, none⟩ = some (.int .i64 ((rd_T30 l0 x6_1).f4.f5)) ∧ w'.cell? ⟨(ad128.add ((x6_1).toNat * 13)).block, (ad128.add ((x6_1).toNat * 13)).off + 12, none⟩ = some (.int .i64 ((rd_T30 l0 x6_1).f4.f6))) (ds := []) #[false, false, false, false, false, false, false, false, false, false, false, false, false] (by kernel_rfl) rfl rfl ⟨(blk_cell BK127.out 0).trans rfl, (blk_cell BK127.out 1).trans rfl, (hbC HB hw128_0), (hbC HB hw128_1), (hbC HB hw128_2), (hbC HB hw128_3), (hbC HB hw128_4), (hbC HB hw128_5), (hbC HB hw128_6), (hbC HB hw128_7), (hbC HB hw128_8), (hbC HB hw128_9), (hbC HB hw128_10), (hbC HB hw128_11), (hbC HB hw128_12)⟩ (fun hHeld => ?_); refine with_tabW replica_place.tab2 replica_place.bits2 (fun HT_ HW_ => ?_)
     generalize wr.drew = w8 at BK127 HB hx128_0 hx128_1 hx128_10 hx128_11 hx128_12 hx128_2 hx128_3 hx128_4 hx128_5 hx128_6 hx128_7 hx128_8 hx128_9 hHeld ⊢
     refine puA 0 7 (bs 13 1) ?_
     refine puA 1 8 (bs 13 3) ?_
     refine puA 2 9 (bs 13 7) ?_
     refine puA 3 10 (bs 13 15) ?_
     refine puA 4 11 (bs 13 31) ?_
     refine puA 5 12 (bs 13 63) ?_
     refine puA 6 13 (bs 13 127) ?_
     refine puA 7 14 (bs 13 255) ?_
     refine puA 8 15 (bs 13 511) ?_
     refine tkA 9 16 (bs 13 1023) hHeld ?_
     refine tkA 10 17 (bs 13 2047) hHeld ?_
     refine one_ (i := 11) (N := some 18) (bs 13 4095) rfl rfl (one_of HT_.out (by kernel_rfl)) (by decide) (fun K hK => ?_)
     refine goes_ Try.func75 (by kernel_rfl) rfl #[.agg #[.int .i64 ((rd_T30 l0 x6_1).f0.f0), .int .i64 ((rd_T30 l0 x6_1).f0.f1)], .agg #[.int .i64 a1_0, .int .i64 a1_1]] (by rfl) rfl rfl (by (try simp only [List.map_toArray, List.map_cons, List.map_nil]); first | done | rfl | (simp only [List.length_drop, List.length_take]; rfl)) ?_
     with_reducible refine (edits_Less.calls ((rd_T30 l0 x6_1).f0.f0) ((rd_T30 l0 x6_1).f0.f1) a1_0 a1_1 true _ A6.out).mono ?_
     rintro e w9 ⟨rfl, hb⟩
     refine ⟨_, rfl, ?_⟩
     replace BK127 := Aside0.mk (blk_below (bU BK127.out) hb)
     replace HB := Aside0.mk (below_step (hU HB.out) hb)
     (try clear hb)
     (try clear hb2)
     (try clear hk)
     (try clear hi)
     refine hK.out _ _ ⟨(blk_cell BK127.out 0).trans rfl, (blk_cell BK127.out 1).trans rfl, (hbC HB hw128_0), (hbC HB hw128_1), (hbC HB hw128_2), (hbC HB hw128_3), (hbC HB hw128_4), (hbC HB hw128_5), (hbC HB hw128_6), (hbC HB hw128_7), (hbC HB hw128_8), (hbC HB hw128_9), (hbC HB hw128_10), (hbC HB hw128_11), (hbC HB hw128_12)⟩ (fun hHeld => ?_)
     clear hK K
     refine nmA 18 ?_
     refine puA 12 19 (bs 13 8191) ?_
     refine done_ (done_of HT_.out (by kernel_rfl)) ?_
     try go_wp2
     go_roundg k1
     case measure => have := HK1.out; omega
     case rel => exact ⟨(wrap64 (x6_1 + 1)), (by first | rfl | (simp; done) | (simp [*]; done)), H', ⟨by have := HK1.out; omega⟩, ⟨by (with_reducible repeat (first | refine blk_drewN ?_ _ | refine blk_drew ?_ | refine blk_alloc ?_ _)); exact BK127.out⟩, ⟨hU HB.out⟩⟩
    ·replace c7 := Bool.eq_false_iff.mpr c7
     subst c7
     have H1 : (some (x6_1, (((rd_T30 l0 x6_1).f0.f0) == a1_0 && (((rd_T30 l0 x6_1).f0.f1) == a1_1)))) = some (r1, r2) := by rw [if_neg (show ¬ (false = true) by decide)] at H; exact H
     clear H
     have H := H1
     clear H1
     simp only [Option.some.injEq, Prod.mk.injEq] at H
     obtain ⟨rfl, rfl⟩ := H
     try go_wp2
     replace BK127 := Aside0.mk (blk_drew BK127.out)
     replace HB := Aside0.mk (below_drew1 HB.out)
     have p128 : 0 ≤ (x6_1 : Int) := of_decide_eq_true (by first | (with_reducible assumption) | assumption)
     have q128 : x6_1 < (l0.length : Int) := of_decide_eq_true (by first | (with_reducible assumption) | assumption)
     obtain ⟨ad128, e128, hx128_0, hx128_1, hx128_2, hx128_3, hx128_4, hx128_5, hx128_6, hx128_7, hx128_8, hx128_9, hx128_10, hx128_11, hx128_12⟩ := at_T30 HR0.out x6_1 p128 q128
     have hw128_12 := hx128_12
     have hw128_11 := hx128_11
     have hw128_10 := hx128_10
     have hw128_9 := hx128_9
     have hw128_8 := hx128_8
     have hw128_7 := hx128_7
     have hw128_6 := hx128_6
     have hw128_5 := hx128_5
     have hw128_4 := hx128_4
     have hw128_3 := hx128_3
     have hw128_2 := hx128_2
     have hw128_1 := hx128_1
     have hw128_0 := hx128_0
     cases e128
     replace hx128_0 := hbC HB hx128_0
     replace hx128_1 := hbC HB hx128_1
     replace hx128_2 := hbC HB hx128_2
     replace hx128_3 := hbC HB hx128_3
     replace hx128_4 := hbC HB hx128_4
     replace hx128_5 := hbC HB hx128_5
     replace hx128_6 := hbC HB hx128_6
     replace hx128_7 := hbC HB hx128_7
     replace hx128_8 := hbC HB hx128_8
     replace hx128_9 := hbC HB hx128_9
     replace hx128_10 := hbC HB hx128_10
     replace hx128_11 := hbC HB hx128_11
     replace hx128_12 := hbC HB hx128_12
     replace p128 := eq_true p128
     replace q128 := eq_true q128
     refine start_ (n := 13) (S := fun w' => w'.cell? ⟨gb127, 0, none⟩ = some (.int .i64 a1_0) ∧ w'.cell? ⟨gb127, 1, none⟩ = some (.int .i64 a1_1) ∧ w'.cell? (ad128.add ((x6_1).toNat * 13)) = some (.int .i64 ((rd_T30 l0 x6_1).f0.f0)) ∧ w'.cell? ⟨(ad128.add ((x6_1).toNat * 13)).block, (ad128.add ((x6_1).toNat * 13)).off + 1, none⟩ = some (.int .i64 ((rd_T30 l0 x6_1).f0.f1)) ∧ w'.cell? ⟨(ad128.add ((x6_1).toNat * 13)).block, (ad128.add ((x6_1).toNat * 13)).off + 2, none⟩ = some (.int .i64 ((rd_T30 l0 x6_1).f1)) ∧ w'.cell? ⟨(ad128.add ((x6_1).toNat * 13)).block, (ad128.add ((x6_1).toNat * 13)).off + 3, none⟩ = some (.int .i64 ((rd_T30 l0 x6_1).f2.f0)) ∧ w'.cell? ⟨(ad128.add ((x6_1).toNat * 13)).block, (ad128.add ((x6_1).toNat * 13)).off + 4, none⟩ = some (.int .i64 ((rd_T30 l0 x6_1).f2.f1)) ∧ w'.cell? ⟨(ad128.add ((x6_1).toNat * 13)).block, (ad128.add ((x6_1).toNat * 13)).off + 5, none⟩ = some (.bool ((rd_T30 l0 x6_1).f3)) ∧ w'.cell? ⟨(ad128.add ((x6_1).toNat * 13)).block, (ad128.add ((x6_1).toNat * 13)).off + 6, none⟩ = some (.int .i64 ((rd_T30 l0 x6_1).f4.f0)) ∧ w'.cell? ⟨(ad128.add ((x6_1).toNat * 13)).block, (ad128.add ((x6_1).toNat * 13)).off + 7, none⟩ = some (.int .i64 ((rd_T30 l0 x6_1).f4.f1)) ∧ w'.cell? ⟨(ad128.add ((x6_1).toNat * 13)).block, (ad128.add ((x6_1).toNat * 13)).off + 8, none⟩ = some (.int .i64 ((rd_T30 l0 x6_1).f4.f2)) ∧ w'.cell? ⟨(ad128.add ((x6_1).toNat * 13)).block, (ad128.add ((x6_1).toNat * 13)).off + 9, none⟩ = some (.int .i64 ((rd_T30 l0 x6_1).f4.f3)) ∧ w'.cell? ⟨(ad128.add ((x6_1).toNat * 13)).block, (ad128.add ((x6_1).toNat * 13)).off + 10, none⟩ = some (.int .i64 ((rd_T30 l0 x6_1).f4.f4)) ∧ w'.cell? ⟨(ad128.add ((x6_1).toNat * 13)).block, (ad128.add ((x6_1).toNat * 13)).off + 11, none⟩ = some (.int .i64 ((rd_T30 l0 x6_1).f4.f5)) ∧ w'.cell? ⟨(ad128.add ((x6_1).toNat * 13)).block, (ad128.add ((x6_1).toNat * 13)).off + 12, none⟩ = some (.int .i64 ((rd_T30 l0 x6_1).f4.f6))) (ds := []) #[false, false, false, false, false, false, false, false, false, false, false, false, false] (by kernel_rfl) rfl rfl ⟨(blk_cell BK127.out 0).trans rfl, (blk_cell BK127.out 1).trans rfl, (hbC HB hw128_0), (hbC HB hw128_1), (hbC HB hw128_2), (hbC HB hw128_3), (hbC HB hw128_4), (hbC HB hw128_5), (hbC HB hw128_6), (hbC HB hw128_7), (hbC HB hw128_8), (hbC HB hw128_9), (hbC HB hw128_10), (hbC HB hw128_11), (hbC HB hw128_12)⟩ (fun hHeld => ?_); refine with_tabW replica_place.tab2 replica_place.bits2 (fun HT_ HW_ => ?_)
     generalize wr.drew = w10 at BK127 HB hx128_0 hx128_1 hx128_10 hx128_11 hx128_12 hx128_2 hx128_3 hx128_4 hx128_5 hx128_6 hx128_7 hx128_8 hx128_9 hHeld ⊢
     refine puA 0 7 (bs 13 1) ?_
     refine puA 1 8 (bs 13 3) ?_
     refine puA 2 9 (bs 13 7) ?_
     refine puA 3 10 (bs 13 15) ?_
     refine puA 4 11 (bs 13 31) ?_
     refine puA 5 12 (bs 13 63) ?_
     refine puA 6 13 (bs 13 127) ?_
     refine puA 7 14 (bs 13 255) ?_
     refine puA 8 15 (bs 13 511) ?_
     refine tkA 9 16 (bs 13 1023) hHeld ?_
     refine tkA 10 17 (bs 13 2047) hHeld ?_
     refine one_ (i := 11) (N := some 18) (bs 13 4095) rfl rfl (one_of HT_.out (by kernel_rfl)) (by decide) (fun K hK => ?_)
     refine goes_ Try.func75 (by kernel_rfl) rfl #[.agg #[.int .i64 ((rd_T30 l0 x6_1).f0.f0), .int .i64 ((rd_T30 l0 x6_1).f0.f1)], .agg #[.int .i64 a1_0, .int .i64 a1_1]] (by rfl) rfl rfl (by (try simp only [List.map_toArray, List.map_cons, List.map_nil]); first | done | rfl | (simp only [List.length_drop, List.length_take]; rfl)) ?_
     with_reducible refine (edits_Less.calls ((rd_T30 l0 x6_1).f0.f0) ((rd_T30 l0 x6_1).f0.f1) a1_0 a1_1 false _ A6.out).mono ?_
     rintro e w11 ⟨rfl, hb⟩
     refine ⟨_, rfl, ?_⟩
     replace BK127 := Aside0.mk (blk_below (bU BK127.out) hb)
     replace HB := Aside0.mk (below_step (hU HB.out) hb)
     (try clear hb)
     (try clear hb2)
     (try clear hk)
     (try clear hi)
     refine hK.out _ _ ⟨(blk_cell BK127.out 0).trans rfl, (blk_cell BK127.out 1).trans rfl, (hbC HB hw128_0), (hbC HB hw128_1), (hbC HB hw128_2), (hbC HB hw128_3), (hbC HB hw128_4), (hbC HB hw128_5), (hbC HB hw128_6), (hbC HB hw128_7), (hbC HB hw128_8), (hbC HB hw128_9), (hbC HB hw128_10), (hbC HB hw128_11), (hbC HB hw128_12)⟩ (fun hHeld => ?_)
     clear hK K
     refine nmA 18 ?_
     refine puA 12 19 (bs 13 8191) ?_
     refine done_ (done_of HT_.out (by kernel_rfl)) ?_
     try go_wp2
     replace BK127 := Aside0.mk (blk_drew BK127.out)
     replace HB := Aside0.mk (below_drew1 HB.out)
     have p130 : 0 ≤ (x6_1 : Int) := of_decide_eq_true (by first | (with_reducible assumption) | assumption)
     have q130 : x6_1 < (l0.length : Int) := of_decide_eq_true (by first | (with_reducible assumption) | assumption)
     obtain ⟨ad130, e130, hx130_0, hx130_1, hx130_2, hx130_3, hx130_4, hx130_5, hx130_6, hx130_7, hx130_8, hx130_9, hx130_10, hx130_11, hx130_12⟩ := at_T30 HR0.out x6_1 p130 q130
     have hw130_12 := hx130_12
     have hw130_11 := hx130_11
     have hw130_10 := hx130_10
     have hw130_9 := hx130_9
     have hw130_8 := hx130_8
     have hw130_7 := hx130_7
     have hw130_6 := hx130_6
     have hw130_5 := hx130_5
     have hw130_4 := hx130_4
     have hw130_3 := hx130_3
     have hw130_2 := hx130_2
     have hw130_1 := hx130_1
     have hw130_0 := hx130_0
     obtain rfl : ad128 = ad130 := (by injection e130)
     replace hx130_0 := hbC HB hx130_0
     replace hx130_1 := hbC HB hx130_1
     replace hx130_2 := hbC HB hx130_2
     replace hx130_3 := hbC HB hx130_3
     replace hx130_4 := hbC HB hx130_4
     replace hx130_5 := hbC HB hx130_5
     replace hx130_6 := hbC HB hx130_6
     replace hx130_7 := hbC HB hx130_7
     replace hx130_8 := hbC HB hx130_8
     replace hx130_9 := hbC HB hx130_9
     replace hx130_10 := hbC HB hx130_10
     replace hx130_11 := hbC HB hx130_11
     replace hx130_12 := hbC HB hx130_12
     replace p130 := eq_true p130
     replace q130 := eq_true q130
     refine start_ (n := 16) (S := fun w' => w'.cell? ⟨gb127, 0, none⟩ = some (.int .i64 a1_0) ∧ w'.cell? ⟨gb127, 1, none⟩ = some (.int .i64 a1_1) ∧ w'.cell? (ad128.add ((x6_1).toNat * 13)) = some (.int .i64 ((rd_T30 l0 x6_1).f0.f0)) ∧ w'.cell? ⟨(ad128.add ((x6_1).toNat * 13)).block, (ad128.add ((x6_1).toNat * 13)).off + 1, none⟩ = some (.int .i64 ((rd_T30 l0 x6_1).f0.f1)) ∧ w'.cell? ⟨(ad128.add ((x6_1).toNat * 13)).block, (ad128.add ((x6_1).toNat * 13)).off + 2, none⟩ = some (.int .i64 ((rd_T30 l0 x6_1).f1)) ∧ w'.cell? ⟨(ad128.add ((x6_1).toNat * 13)).block, (ad128.add ((x6_1).toNat * 13)).off + 3, none⟩ = some (.int .i64 ((rd_T30 l0 x6_1).f2.f0)) ∧ w'.cell? ⟨(ad128.add ((x6_1).toNat * 13)).block, (ad128.add ((x6_1).toNat * 13)).off + 4, none⟩ = some (.int .i64 ((rd_T30 l0 x6_1).f2.f1)) ∧ w'.cell? ⟨(ad128.add ((x6_1).toNat * 13)).block, (ad128.add ((x6_1).toNat * 13)).off + 5, none⟩ = some (.bool ((rd_T30 l0 x6_1).f3)) ∧ w'.cell? ⟨(ad128.add ((x6_1).toNat * 13)).block, (ad128.add ((x6_1).toNat * 13)).off + 6, none⟩ = some (.int .i64 ((rd_T30 l0 x6_1).f4.f0)) ∧ w'.cell? ⟨(ad128.add ((x6_1).toNat * 13)).block, (ad128.add ((x6_1).toNat * 13)).off + 7, none⟩ = some (.int .i64 ((rd_T30 l0 x6_1).f4.f1)) ∧ w'.cell? ⟨(ad128.add ((x6_1).toNat * 13)).block, (ad128.add ((x6_1).toNat * 13)).off + 8, none⟩ = some (.int .i64 ((rd_T30 l0 x6_1).f4.f2)) ∧ w'.cell? ⟨(ad128.add ((x6_1).toNat * 13)).block, (ad128.add ((x6_1).toNat * 13)).off + 9, none⟩ = some (.int .i64 ((rd_T30 l0 x6_1).f4.f3)) ∧ w'.cell? ⟨(ad128.add ((x6_1).toNat * 13)).block, (ad128.add ((x6_1).toNat * 13)).off + 10, none⟩ = some (.int .i64 ((rd_T30 l0 x6_1).f4.f4)) ∧ w'.cell? ⟨(ad128.add ((x6_1).toNat * 13)).block, (ad128.add ((x6_1).toNat * 13)).off + 11, none⟩ = some (.int .i64 ((rd_T30 l0 x6_1).f4.f5)) ∧ w'.cell? ⟨(ad128.add ((x6_1).toNat * 13)).block, (ad128.add ((x6_1).toNat * 13)).off + 12, none⟩ = some (.int .i64 ((rd_T30 l0 x6_1).f4.f6))) (ds := []) #[false, false, false, false, false, false, false, false, false, false, false, false, false, false, false, false] (by kernel_rfl) rfl rfl ⟨(blk_cell BK127.out 0).trans rfl, (blk_cell BK127.out 1).trans rfl, (hbC HB hw130_0), (hbC HB hw130_1), (hbC HB hw130_2), (hbC HB hw130_3), (hbC HB hw130_4), (hbC HB hw130_5), (hbC HB hw130_6), (hbC HB hw130_7), (hbC HB hw130_8), (hbC HB hw130_9), (hbC HB hw130_10), (hbC HB hw130_11), (hbC HB hw130_12)⟩ (fun hHeld => ?_); refine with_tabW replica_place.tab4 replica_place.bits4 (fun HT_ HW_ => ?_)
     generalize w11.drew = w12 at BK127 HB hx130_0 hx130_1 hx130_10 hx130_11 hx130_12 hx130_2 hx130_3 hx130_4 hx130_5 hx130_6 hx130_7 hx130_8 hx130_9 hHeld ⊢
     refine puA 0 22 (bs 16 1) ?_
     refine puA 1 23 (bs 16 3) ?_
     refine puA 2 24 (bs 16 7) ?_
     refine puA 3 25 (bs 16 15) ?_
     refine puA 4 26 (bs 16 31) ?_
     refine puA 5 27 (bs 16 63) ?_
     refine puA 6 28 (bs 16 127) ?_
     refine puA 7 29 (bs 16 255) ?_
     refine puA 8 30 (bs 16 511) ?_
     refine puA 9 31 (bs 16 1023) ?_
     refine puA 14 4 (bs 16 17407) ?_
     refine tkA 10 32 (bs 16 18431) hHeld ?_
     refine tkA 11 33 (bs 16 20479) hHeld ?_
     refine puA 12 34 (bs 16 24575) ?_
     refine puA 13 35 (bs 16 32767) ?_
     refine puA 15 5 (bs 16 65535) ?_
     refine done_ (done_of HT_.out (by kernel_rfl)) ?_
     try go_wp2
     go_ret2
     exact ⟨by first | rfl | (simp [errW_none, errW_some] <;> rfl) | (simp [*, errW_none, errW_some] <;> rfl), hU HB.out⟩
   ·rw [if_neg c4] at H
    have c4b0 : decide (x6_1 < (l0.length : Int)) = false := decide_eq_false c4
    clear c4
    simp only [Option.some.injEq, Prod.mk.injEq] at H
    obtain ⟨rfl, rfl⟩ := H
    try go_wp2
    replace BK127 := Aside0.mk (blk_drew BK127.out)
    replace HB := Aside0.mk (below_drew1 HB.out)
    refine start_ (n := 13) (S := fun w' => True) (ds := []) #[false, false, false, false, false, false, false, false, false, false, false, false, false] (by kernel_rfl) rfl rfl trivial (fun hHeld => ?_); refine with_tabW replica_place.tab2 replica_place.bits2 (fun HT_ HW_ => ?_)
    generalize wr.drew = w13 at BK127 HB hHeld ⊢
    refine puA 0 7 (bs 13 1) ?_
    refine puA 1 8 (bs 13 3) ?_
    refine puA 2 9 (bs 13 7) ?_
    refine puA 3 10 (bs 13 15) ?_
    refine puA 4 11 (bs 13 31) ?_
    refine skA 5 12 (bs 13 63) ?_
    refine skA 6 13 (bs 13 127) ?_
    refine skA 7 14 (bs 13 255) ?_
    refine skA 8 15 (bs 13 511) ?_
    refine skA 9 16 (bs 13 1023) ?_
    refine skA 10 17 (bs 13 2047) ?_
    refine skA 11 18 (bs 13 4095) ?_
    refine puA 12 19 (bs 13 8191) ?_
    refine done_ (done_of HT_.out (by kernel_rfl)) ?_
    try go_wp2
    replace BK127 := Aside0.mk (blk_drew BK127.out)
    replace HB := Aside0.mk (below_drew1 HB.out)
    refine start_ (n := 16) (S := fun w' => True) (ds := []) #[false, false, false, false, false, false, false, false, false, false, false, false, false, false, false, false] (by kernel_rfl) rfl rfl trivial (fun hHeld => ?_); refine with_tabW replica_place.tab4 replica_place.bits4 (fun HT_ HW_ => ?_)
    generalize w13.drew = w14 at BK127 HB hHeld ⊢
    refine puA 0 22 (bs 16 1) ?_
    refine puA 1 23 (bs 16 3) ?_
    refine puA 2 24 (bs 16 7) ?_
    refine puA 3 25 (bs 16 15) ?_
    refine puA 4 26 (bs 16 31) ?_
    refine puA 5 27 (bs 16 63) ?_
    refine skA 6 28 (bs 16 127) ?_
    refine skA 7 29 (bs 16 255) ?_
    refine skA 8 30 (bs 16 511) ?_
    refine skA 9 31 (bs 16 1023) ?_
    refine skA 10 32 (bs 16 2047) ?_
    refine skA 11 33 (bs 16 4095) ?_
    refine skA 12 34 (bs 16 8191) ?_
    refine puA 13 35 (bs 16 16383) ?_
    refine puA 14 4 (bs 16 32767) ?_
    refine puA 15 5 (bs 16 65535) ?_
    refine done_ (done_of HT_.out (by kernel_rfl)) ?_
    try go_wp2
    go_ret2
    exact ⟨by first | rfl | (simp [errW_none, errW_some] <;> rfl) | (simp [*, errW_none, errW_some] <;> rfl), hU HB.out⟩
end Go.Proofs.Yteopkkoblbmggaa.P
end

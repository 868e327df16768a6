/- Texts of this claim in one: VP28; no condition. -/
import Derived.Test.YteopkkoblbmggaaUAD
import Derived.Test.YteopkkoblbmggaaUAT
section
namespace Go.Proofs.Yteopkkoblbmggaa.P
open Go.RowKit Go.Proofs.YteopkkoblbmggaaW.PrintWords Go.Proofs.YteopkkoblbmggaaW.PrintLast Go.Proofs.YteopkkoblbmggaaW.PrintMore
attribute [local go_sem] max2_int min2_int max_two min_two max_three min_three max_four min_four
set_option linter.unusedVariables false
set_option linter.unusedSimpArgs false
/-! ### dancestudioref57_founded: function 63 -/
def dancestudioref57_founded.l0 : Nat → List (S30) → Int → Int → Int → Int → Int → Int → Bool → Int → Int → Int → Int → Int → Int → Int → Option (Bool)
 | 0, _, _, _, _, _, _, _, _, _, _, _, _, _, _, _ => none
 | k + 1, x0, x5, x487000, x487001, x487002, x487003, x487004, x487005, x487006, x487007, x487008, x487009, x487010, x487011, x487012 => if x5 < (x0.length : Int) then (if 0 ≤ x5 then ((dancestudioref57_founds.f ((rd_T30 x0 x5).f0.f0) ((rd_T30 x0 x5).f0.f1) ((rd_T30 x0 x5).f1) ((rd_T30 x0 x5).f2.f0) ((rd_T30 x0 x5).f2.f1) ((rd_T30 x0 x5).f3) ((rd_T30 x0 x5).f4.f0) ((rd_T30 x0 x5).f4.f1) ((rd_T30 x0 x5).f4.f2) ((rd_T30 x0 x5).f4.f3) ((rd_T30 x0 x5).f4.f4) ((rd_T30 x0 x5).f4.f5) ((rd_T30 x0 x5).f4.f6) x487000 x487001 x487002 x487003 x487004 x487005 x487006 x487007 x487008 x487009 x487010 x487011 x487012).bind fun t488 => (if t488 = true then (some true) else (dancestudioref57_founded.l0 k x0 (wrap64 (x5 + 1)) x487000 x487001 x487002 x487003 x487004 x487005 x487006 x487007 x487008 x487009 x487010 x487011 x487012))) else (none)) else (some false)
def dancestudioref57_founded.f (k : Nat) (l0 : List (S30)) (a1_0 : Int) (a1_1 : Int) (a1_2 : Int) (a1_3 : Int) (a1_4 : Int) (a1_5 : Bool) (a1_6 : Int) (a1_7 : Int) (a1_8 : Int) (a1_9 : Int) (a1_10 : Int) (a1_11 : Int) (a1_12 : Int) : Option (Bool) := dancestudioref57_founded.l0 k l0 0 a1_0 a1_1 a1_2 a1_3 a1_4 a1_5 a1_6 a1_7 a1_8 a1_9 a1_10 a1_11 a1_12
theorem dancestudioref57_founded.mono_l : ∀ k, (∀ y0 y1 y2 y3 y4 y5 y6 y7 y8 y9 y10 y11 y12 y13 y14, LeO (dancestudioref57_founded.l0 k y0 y1 y2 y3 y4 y5 y6 y7 y8 y9 y10 y11 y12 y13 y14) (dancestudioref57_founded.l0 (k + 1) y0 y1 y2 y3 y4 y5 y6 y7 y8 y9 y10 y11 y12 y13 y14))
 | 0 => fun _ _ _ _ _ _ _ _ _ _ _ _ _ _ _ r h => by simp [dancestudioref57_founded.l0] at h
 | k + 1 => by
  have ih0 := dancestudioref57_founded.mono_l k
  ·intro y0 y1 y2 y3 y4 y5 y6 y7 y8 y9 y10 y11 y12 y13 y14
   unfold dancestudioref57_founded.l0
   repeat' first
   | (with_reducible exact ih0 _ _ _ _ _ _ _ _ _ _ _ _ _ _ _)
   | (with_reducible exact LeO.refl _)
   | (with_reducible exact LeO.none _)
   | (with_reducible refine LeO.ite ?_ ?_)
   | (with_reducible refine LeO.bind ?_ (fun _ => ?_))
   | exact ih0 _ _ _ _ _ _ _ _ _ _ _ _ _ _ _
   | exact LeO.none _
   | refine LeO.ite ?_ ?_
   | refine LeO.bind ?_ (fun _ => ?_)
theorem dancestudioref57_founded.mono : ∀ a0 a1 a2 a3 a4 a5 a6 a7 a8 a9 a10 a11 a12 a13 k, LeO (dancestudioref57_founded.f k a0 a1 a2 a3 a4 a5 a6 a7 a8 a9 a10 a11 a12 a13) (dancestudioref57_founded.f (k + 1) a0 a1 a2 a3 a4 a5 a6 a7 a8 a9 a10 a11 a12 a13) := by
 intro a0 a1 a2 a3 a4 a5 a6 a7 a8 a9 a10 a11 a12 a13 k
 have ih0 := dancestudioref57_founded.mono_l k
 unfold dancestudioref57_founded.f
 repeat' first
   | (with_reducible exact ih0 _ _ _ _ _ _ _ _ _ _ _ _ _ _ _)
   | (with_reducible exact LeO.refl _)
   | (with_reducible exact LeO.none _)
   | (with_reducible refine LeO.ite ?_ ?_)
   | (with_reducible refine LeO.bind ?_ (fun _ => ?_))
   | exact ih0 _ _ _ _ _ _ _ _ _ _ _ _ _ _ _
   | exact LeO.none _
   | refine LeO.ite ?_ ?_
   | refine LeO.bind ?_ (fun _ => ?_)
set_option maxHeartbeats 8000000 in
set_option maxRecDepth 100000 in
theorem dancestudioref57_founded.calls (k : Nat) (A0 : Option Addr) (c0 : Nat) (l0 : List (S30)) (a1_0 : Int) (a1_1 : Int) (a1_2 : Int) (a1_3 : Int) (a1_4 : Int) (a1_5 : Bool) (a1_6 : Int) (a1_7 : Int) (a1_8 : Int) (a1_9 : Int) (a1_10 : Int) (a1_11 : Int) (a1_12 : Int) (r : Bool) (w : World) (hr0 : Kd.C k30 w A0 l0.length l0) (hc0 : l0.length ≤ c0) (h : dancestudioref57_founded.f k l0 a1_0 a1_1 a1_2 a1_3 a1_4 a1_5 a1_6 a1_7 a1_8 a1_9 a1_10 a1_11 a1_12 = some r) :
  Calls Try.prog 63 #[.slice A0 l0.length c0, .agg #[.int .i64 a1_0, .int .i64 a1_1, .int .i64 a1_2, .int .i64 a1_3, .int .i64 a1_4, .bool a1_5, .int .i64 a1_6, .int .i64 a1_7, .int .i64 a1_8, .int .i64 a1_9, .int .i64 a1_10, .int .i64 a1_11, .int .i64 a1_12]] w fun e w' => e = .returned (.bool r) ∧ Below w.heap.size w w' := by
 have hu30 := Try.underlying30
 have HR0 := Aside0.mk hr0
 have HC0 := Aside0.mk hc0
 clear hr0 hc0
 have HB := Aside0.mk (Below.refl w.heap.size w)
 have H : (dancestudioref57_founded.l0 k l0 0 a1_0 a1_1 a1_2 a1_3 a1_4 a1_5 a1_6 a1_7 a1_8 a1_9 a1_10 a1_11 a1_12) = some r := h
 clear h
 have H' := Aside0.mk H
 clear H
 go_enter Try.func63, Try.ntmps63
 go_wp2_with (first | ((with_reducible refine gate_dst (N := 3) rfl ?_); refine box_event ?hg (N := 3) ?hd (cs := #[.int .i64 a1_0, .int .i64 a1_1, .int .i64 a1_2, .int .i64 a1_3, .int .i64 a1_4, .bool a1_5, .int .i64 a1_6, .int .i64 a1_7, .int .i64 a1_8, .int .i64 a1_9, .int .i64 a1_10, .int .i64 a1_11, .int .i64 a1_12]) (t := 30) ?hr ?_; (case hd => rfl); (case hg => rfl); (case hr => first | (go_simp; done) | (go_simp; rfl)); intro gb486 hg w3 hbox hb; have n0_ := Aside0.mk (below_step (hU HB.out) hb); have n1_ := Aside0.mk (hbox); have n2_ := Aside0.mk ((by rw [hg]; exact (below_size (hU HB.out)) : w.heap.size ≤ gb486)); have n3_ := Aside0.mk ((by rw [hg]; exact (below_size (hU HB.out)) : w.heap.size ≤ gb486)); clear HB; have HB := n0_; have BK486 := n1_; have GW486 := n2_; have GE486 := n3_; clear n0_ n1_ n2_ n3_; clear hb hbox hg))
 go_loopg [5] k (fun kq v5 w' => ∃ (x5_1 : Int), v5 = .int .i64 x5_1 ∧ Aside0 (dancestudioref57_founded.l0 kq l0 x5_1 a1_0 a1_1 a1_2 a1_3 a1_4 a1_5 a1_6 a1_7 a1_8 a1_9 a1_10 a1_11 a1_12 = some r) ∧ Aside0 (kq ≤ k) ∧ Aside0 (w'.heap[gb486]? = some (.cells #[.int .i64 a1_0, .int .i64 a1_1, .int .i64 a1_2, .int .i64 a1_3, .int .i64 a1_4, .bool a1_5, .int .i64 a1_6, .int .i64 a1_7, .int .i64 a1_8, .int .i64 a1_9, .int .i64 a1_10, .int .i64 a1_11, .int .i64 a1_12] 30 (0, 0))) ∧ Aside0 (Below w.heap.size w w'))
 case atStart => exact ⟨(0), (by first | rfl | (simp; done) | (simp [*]; done)), H', ⟨Nat.le_refl _⟩, ⟨by (with_reducible repeat (first | refine blk_drewN ?_ _ | refine blk_drew ?_ | refine blk_alloc ?_ _)); exact BK486.out⟩, ⟨hU HB.out⟩⟩
 case round =>
  clear H'
  try clear p2
  obtain ⟨x5_1, rfl, HA, HK1, BK486, HB⟩ := hrel
  cases gk with
  | zero => exact absurd HA.out (by simp [dancestudioref57_founded.l0])
  | succ k1 =>
   have H := HA.out
   clear HA
   simp only [dancestudioref57_founded.l0] at H
   by_cases c4 : x5_1 < (l0.length : Int)
   ·rw [if_pos c4] at H
    have c4b0 : decide (x5_1 < (l0.length : Int)) = true := decide_eq_true c4
    clear c4
    by_cases c5 : 0 ≤ x5_1
    rotate_left
    ·rw [if_neg c5] at H
     exact absurd H (by simp)
    rw [if_pos c5] at H
    have c5b0 : decide (0 ≤ x5_1) = true := decide_eq_true c5
    clear c5
    replace H := Option.bind_eq_some_iff.mp H
    obtain ⟨t488, A60, H⟩ := H
    try dsimp only at H
    have A6 := Aside0.mk A60
    clear A60
    by_cases c7 : t488 = true
    ·subst c7
     have H1 : (some true) = some r := by rw [if_pos rfl] at H; exact H
     clear H
     have H := H1
     clear H1
     obtain rfl := Option.some.inj H
     try go_wp2
     replace BK486 := Aside0.mk (blk_drew BK486.out)
     replace HB := Aside0.mk (below_drew1 HB.out)
     have p487 : 0 ≤ (x5_1 : Int) := of_decide_eq_true (by first | (with_reducible assumption) | assumption)
     have q487 : x5_1 < (l0.length : Int) := of_decide_eq_true (by first | (with_reducible assumption) | assumption)
     obtain ⟨ad487, e487, hx487_0, hx487_1, hx487_2, hx487_3, hx487_4, hx487_5, hx487_6, hx487_7, hx487_8, hx487_9, hx487_10, hx487_11, hx487_12⟩ := at_T30 HR0.out x5_1 p487 q487
     have hw487_12 := hx487_12
     have hw487_11 := hx487_11
     have hw487_10 := hx487_10
     have hw487_9 := hx487_9
     have hw487_8 := hx487_8
     have hw487_7 := hx487_7
     have hw487_6 := hx487_6
     have hw487_5 := hx487_5
     have hw487_4 := hx487_4
     have hw487_3 := hx487_3
     have hw487_2 := hx487_2
     have hw487_1 := hx487_1
     have hw487_0 := hx487_0
     cases e487
     replace hx487_0 := hbC HB hx487_0
     replace hx487_1 := hbC HB hx487_1
     replace hx487_2 := hbC HB hx487_2
     replace hx487_3 := hbC HB hx487_3
     replace hx487_4 := hbC HB hx487_4
     replace hx487_5 := hbC HB hx487_5
     replace hx487_6 := hbC HB hx487_6
     replace hx487_7 := hbC HB hx487_7
     replace hx487_8 := hbC HB hx487_8
     replace hx487_9 := hbC HB hx487_9
     replace hx487_10 := hbC HB hx487_10
     replace hx487_11 := hbC HB hx487_11
     replace hx487_12 := hbC HB hx487_12
     replace p487 := eq_true p487
     replace q487 := eq_true q487
     refine start_ (n := 6) (S := fun w' => w'.cell? ⟨gb486, 0, none⟩ = some (.int .i64 a1_0) ∧ w'.cell? ⟨gb486, 1, none⟩ = some (.int .i64 a1_1) ∧ w'.cell? ⟨gb486, 2, none⟩ = some (.int .i64 a1_2) ∧ w'.cell? ⟨gb486, 3, none⟩ = some (.int .i64 a1_3) ∧ w'.cell? ⟨gb486, 4, none⟩ = some (.int .i64 a1_4) ∧ w'.cell? ⟨gb486, 5, none⟩ = some (.bool a1_5) ∧ w'.cell? ⟨gb486, 6, none⟩ = some (.int .i64 a1_6) ∧ w'.cell? ⟨gb486, 7, none⟩ = some (.int .i64 a1_7) ∧ w'.cell? ⟨gb486, 8, none⟩ = some (.int .i64 a1_8) ∧ w'.cell? ⟨gb486, 9, none⟩ = some (.int .i64 a1_9) ∧ w'.cell? ⟨gb486, 10, none⟩ = some (.int .i64 a1_10) ∧ w'.cell? ⟨gb486, 11, none⟩ = some (.int .i64 a1_11) ∧ w'.cell? ⟨gb486, 12, none⟩ = some (.int .i64 a1_12) ∧ w'.cell? (ad487.add ((x5_1).toNat * 13)) = some (.int .i64 ((rd_T30 l0 x5_1).f0.f0)) ∧ w'.cell? ⟨(ad487.add ((x5_1).toNat * 13)).block, (ad487.add ((x5_1).toNat * 13)).off + 1, none⟩ = some (.int .i64 ((rd_T30 l0 x5_1).f0.f1)) ∧ w'.cell? ⟨(ad487.add ((x5_1).toNat * 13)).block, (ad487.add ((x5_1).toNat * 13)).off + 2, none⟩ = some (.int .i64 ((rd_T30 l0 x5_1).f1)) ∧ w'.cell? ⟨(ad487.add ((x5_1).toNat * 13)).block, (ad487.add ((x5_1).toNat * 13)).off + 3, none⟩ = some (.int .i64 ((rd_T30 l0 x5_1).f2.f0)) ∧ w'.cell? ⟨(ad487.add ((x5_1).toNat * 13)).block, (ad487.add ((x5_1).toNat * 13)).off + 4, none⟩ = some (.int .i64 ((rd_T30 l0 x5_1).f2.f1)) ∧ w'.cell? ⟨(ad487.add ((x5_1).toNat * 13)).block, (ad487.add ((x5_1).toNat * 13)).off + 5, none⟩ = some (.bool ((rd_T30 l0 x5_1).f3)) ∧ w'.cell? ⟨(ad487.add ((x5_1).toNat * 13)).block, (ad487.add ((x5_1).toNat * 13)).off + 6, none⟩ = some (.int .i64 ((rd_T30 l0 x5_1).f4.f0)) ∧ w'.cell? ⟨(ad487.add ((x5_1).toNat * 13)).block, (ad487.add ((x5_1).toNat * 13)).off + 7, none⟩ = some (.int .i64 ((rd_T30 l0 x5_1).f4.f1)) ∧ w'.cell? ⟨(ad487.add ((x5_1).toNat * 13)).block, (ad487.add ((x5_1).toNat * 13)).off + 8, none⟩ = some (.int .i64 ((rd_T30 l0 x5_1).f4.f2)) ∧ w'.cell? ⟨(ad487.add ((x5_1).toNat * 13)).block, (ad487.add ((x5_1).toNat * 13)).off + 9, none⟩ = some (.int .i64 ((rd_T30 l0 x5_1).f4.f3)) ∧ w'.cell? ⟨(ad487.add ((x5_1).toNat * 13)).block, (ad487.add ((x5_1).toNat * 13)).off + 10, none⟩ = some (.int .i64 ((rd_T30 l0 x5_1).f4.f4)) ∧ w'.cell? ⟨(ad487.add ((x5_1).toNat * 13)).block, (ad487.add ((x5_1).toNat * 13)).off + 11, none⟩ = some (.int .i64 ((rd_T30 l0 x5_1).f4.f5)) ∧ w'.cell? ⟨(ad487.add ((x5_1).toNat * 13)).block, (ad487.add ((x5_1).toNat * 13)).off + 12, none⟩ = some (.int .i64 ((rd_T30 l0 x5_1).f4.f6))) (ds := []) #[false, false, false, false, false, false] (by kernel_rfl) rfl rfl ⟨(blk_cell BK486.out 0).trans rfl, (blk_cell BK486.out 1).trans rfl, (blk_cell BK486.out 2).trans rfl, (blk_cell BK486.out 3).trans rfl, (blk_cell BK486.out 4).trans rfl, (blk_cell BK486.out 5).trans rfl, (blk_cell BK486.out 6).trans rfl, (blk_cell BK486.out 7).trans rfl, (blk_cell BK486.out 8).trans rfl, (blk_cell BK486.out 9).trans rfl, (blk_cell BK486.out 10).trans rfl, (blk_cell BK486.out 11).trans rfl, (blk_cell BK486.out 12).trans rfl, (hbC HB hw487_0), (hbC HB hw487_1), (hbC HB hw487_2), (hbC HB hw487_3), (hbC HB hw487_4), (hbC HB hw487_5), (hbC HB hw487_6), (hbC HB hw487_7), (hbC HB hw487_8), (hbC HB hw487_9), (hbC HB hw487_10), (hbC HB hw487_11), (hbC HB hw487_12)⟩ (fun hHeld => ?_)
     generalize wr.drew = w8 at BK486 HB hx487_0 hx487_1 hx487_10 hx487_11 hx487_12 hx487_2 hx487_3 hx487_4 hx487_5 hx487_6 hx487_7 hx487_8 hx487_9 hHeld ⊢
     refine puA 0 12 (bs 6 1) ?_
     refine puA 1 13 (bs 6 3) ?_
     refine puA 2 14 (bs 6 7) ?_
     refine tkA 3 15 (bs 6 15) hHeld ?_
     refine tkA 4 16 (bs 6 31) hHeld ?_
     refine one_ (i := 5) (N := some 17) (bs 6 63) rfl rfl (by kernel_rfl) (by decide) (fun K hK => ?_)
     refine goes_ Try.func64 (by kernel_rfl) rfl #[.agg #[.int .i64 ((rd_T30 l0 x5_1).f0.f0), .int .i64 ((rd_T30 l0 x5_1).f0.f1), .int .i64 ((rd_T30 l0 x5_1).f1), .int .i64 ((rd_T30 l0 x5_1).f2.f0), .int .i64 ((rd_T30 l0 x5_1).f2.f1), .bool ((rd_T30 l0 x5_1).f3), .int .i64 ((rd_T30 l0 x5_1).f4.f0), .int .i64 ((rd_T30 l0 x5_1).f4.f1), .int .i64 ((rd_T30 l0 x5_1).f4.f2), .int .i64 ((rd_T30 l0 x5_1).f4.f3), .int .i64 ((rd_T30 l0 x5_1).f4.f4), .int .i64 ((rd_T30 l0 x5_1).f4.f5), .int .i64 ((rd_T30 l0 x5_1).f4.f6)], .agg #[.int .i64 a1_0, .int .i64 a1_1, .int .i64 a1_2, .int .i64 a1_3, .int .i64 a1_4, .bool a1_5, .int .i64 a1_6, .int .i64 a1_7, .int .i64 a1_8, .int .i64 a1_9, .int .i64 a1_10, .int .i64 a1_11, .int .i64 a1_12]] (by rfl) rfl rfl (by (try simp only [List.map_toArray, List.map_cons, List.map_nil]); first | done | rfl | (simp only [List.length_drop, List.length_take]; rfl)) ?_
     with_reducible refine (dancestudioref57_founds.calls ((rd_T30 l0 x5_1).f0.f0) ((rd_T30 l0 x5_1).f0.f1) ((rd_T30 l0 x5_1).f1) ((rd_T30 l0 x5_1).f2.f0) ((rd_T30 l0 x5_1).f2.f1) ((rd_T30 l0 x5_1).f3) ((rd_T30 l0 x5_1).f4.f0) ((rd_T30 l0 x5_1).f4.f1) ((rd_T30 l0 x5_1).f4.f2) ((rd_T30 l0 x5_1).f4.f3) ((rd_T30 l0 x5_1).f4.f4) ((rd_T30 l0 x5_1).f4.f5) ((rd_T30 l0 x5_1).f4.f6) a1_0 a1_1 a1_2 a1_3 a1_4 a1_5 a1_6 a1_7 a1_8 a1_9 a1_10 a1_11 a1_12 true _ A6.out).mono ?_
     rintro e w9 ⟨rfl, hb⟩
     refine ⟨_, rfl, ?_⟩
     replace BK486 := Aside0.mk (blk_below (bU BK486.out) hb)
     replace HB := Aside0.mk (below_step (hU HB.out) hb)
     (try clear hb)
     (try clear hb2)
     (try clear hk)
     (try clear hi)
     refine hK.out _ _ ⟨(blk_cell BK486.out 0).trans rfl, (blk_cell BK486.out 1).trans rfl, (blk_cell BK486.out 2).trans rfl, (blk_cell BK486.out 3).trans rfl, (blk_cell BK486.out 4).trans rfl, (blk_cell BK486.out 5).trans rfl, (blk_cell BK486.out 6).trans rfl, (blk_cell BK486.out 7).trans rfl, (blk_cell BK486.out 8).trans rfl, (blk_cell BK486.out 9).trans rfl, (blk_cell BK486.out 10).trans rfl, (blk_cell BK486.out 11).trans rfl, (blk_cell BK486.out 12).trans rfl, (hbC HB hw487_0), (hbC HB hw487_1), (hbC HB hw487_2), (hbC HB hw487_3), (hbC HB hw487_4), (hbC HB hw487_5), (hbC HB hw487_6), (hbC HB hw487_7), (hbC HB hw487_8), (hbC HB hw487_9), (hbC HB hw487_10), (hbC HB hw487_11), (hbC HB hw487_12)⟩ (fun hHeld => ?_)
     clear hK K
     refine nmA 17 ?_
     refine done_ (by kernel_rfl) ?_
     try go_wp2
     go_ret
     exact ⟨by first | rfl | (simp [errW_none, errW_some] <;> rfl) | (simp [*, errW_none, errW_some] <;> rfl), hU HB.out⟩
    ·replace c7 := Bool.eq_false_iff.mpr c7
     subst c7
     have H1 : (dancestudioref57_founded.l0 k1 l0 (wrap64 (x5_1 + 1)) a1_0 a1_1 a1_2 a1_3 a1_4 a1_5 a1_6 a1_7 a1_8 a1_9 a1_10 a1_11 a1_12) = some r := by rw [if_neg (show ¬ (false = true) by decide)] at H; exact H
     clear H
     have H := H1
     clear H1
     have H' := Aside0.mk H
     clear H
     try go_wp2
     replace BK486 := Aside0.mk (blk_drew BK486.out)
     replace HB := Aside0.mk (below_drew1 HB.out)
     have p487 : 0 ≤ (x5_1 : Int) := of_decide_eq_true (by first | (with_reducible assumption) | assumption)
     have q487 : x5_1 < (l0.length : Int) := of_decide_eq_true (by first | (with_reducible assumption) | assumption)
     obtain ⟨ad487, e487, hx487_0, hx487_1, hx487_2, hx487_3, hx487_4, hx487_5, hx487_6, hx487_7, hx487_8, hx487_9, hx487_10, hx487_11, hx487_12⟩ := at_T30 HR0.out x5_1 p487 q487
     have hw487_12 := hx487_12
     have hw487_11 := hx487_11
     have hw487_10 := hx487_10
     have hw487_9 := hx487_9
     have hw487_8 := hx487_8
     have hw487_7 := hx487_7
     have hw487_6 := hx487_6
     have hw487_5 := hx487_5
     have hw487_4 := hx487_4
     have hw487_3 := hx487_3
     have hw487_2 := hx487_2
     have hw487_1 := hx487_1
     have hw487_0 := hx487_0
     cases e487
     replace hx487_0 := hbC HB hx487_0
     replace hx487_1 := hbC HB hx487_1
     replace hx487_2 := hbC HB hx487_2
     replace hx487_3 := hbC HB hx487_3
     replace hx487_4 := hbC HB hx487_4
     replace hx487_5 := hbC HB hx487_5
     replace hx487_6 := hbC HB hx487_6
     replace hx487_7 := hbC HB hx487_7
     replace hx487_8 := hbC HB hx487_8
     replace hx487_9 := hbC HB hx487_9
     replace hx487_10 := hbC HB hx487_10
     replace hx487_11 := hbC HB hx487_11
     replace hx487_12 := hbC HB hx487_12
     replace p487 := eq_true p487
     replace q487 := eq_true q487
     refine start_ (n := 6) (S := fun w' => w'.cell? ⟨gb486, 0, none⟩ = some (.int .i64 a1_0) ∧ w'.cell? ⟨gb486, 1, none⟩ = some (.int .i64 a1_1) ∧ w'.cell? ⟨gb486, 2, none⟩ = some (.int .i64 a1_2) ∧ w'.cell? ⟨gb486, 3, none⟩ = some (.int .i64 a1_3) ∧ w'.cell? ⟨gb486, 4, none⟩ = some (.int .i64 a1_4) ∧ w'.cell? ⟨gb486, 5, none⟩ = some (.bool a1_5) ∧ w'.cell? ⟨gb486, 6, none⟩ = some (.int .i64 a1_6) ∧ w'.cell? ⟨gb486, 7, none⟩ = some (.int .i64 a1_7) ∧ w'.cell? ⟨gb486, 8, none⟩ = some (.int .i64 a1_8) ∧ w'.cell? ⟨gb486, 9, none⟩ = some (.int .i64 a1_9) ∧ w'.cell? ⟨gb486, 10, none⟩ = some (.int .i64 a1_10) ∧ w'.cell? ⟨gb486, 11, none⟩ = some (.int .i64 a1_11) ∧ w'.cell? ⟨gb486, 12, none⟩ = some (.int .i64 a1_12) ∧ w'.cell? (ad487.add ((x5_1).toNat * 13)) = some (.int .i64 ((rd_T30 l0 x5_1).f0.f0)) ∧ w'.cell? ⟨(ad487.add ((x5_1).toNat * 13)).block, (ad487.add ((x5_1).toNat * 13)).off + 1, none⟩ = some (.int .i64 ((rd_T30 l0 x5_1).f0.f1)) ∧ w'.cell? ⟨(ad487.add ((x5_1).toNat * 13)).block, (ad487.add ((x5_1).toNat * 13)).off + 2, none⟩ = some (.int .i64 ((rd_T30 l0 x5_1).f1)) ∧ w'.cell? ⟨(ad487.add ((x5_1).toNat * 13)).block, (ad487.add ((x5_1).toNat * 13)).off + 3, none⟩ = some (.int .i64 ((rd_T30 l0 x5_1).f2.f0)) ∧ w'.cell? ⟨(ad487.add ((x5_1).toNat * 13)).block, (ad487.add ((x5_1).toNat * 13)).off + 4, none⟩ = some (.int .i64 ((rd_T30 l0 x5_1).f2.f1)) ∧ w'.cell? ⟨(ad487.add ((x5_1).toNat * 13)).block, (ad487.add ((x5_1).toNat * 13)).off + 5, none⟩ = some (.bool ((rd_T30 l0 x5_1).f3)) ∧ w'.cell? ⟨(ad487.add ((x5_1).toNat * 13)).block, (ad487.add ((x5_1).toNat * 13)).off + 6, none⟩ = some (.int .i64 ((rd_T30 l0 x5_1).f4.f0)) ∧ w'.cell? ⟨(ad487.add ((x5_1).toNat * 13)).block, (ad487.add ((x5_1).toNat * 13)).off + 7, none⟩ = some (.int .i64 ((rd_T30 l0 x5_1).f4.f1)) ∧ w'.cell? ⟨(ad487.add ((x5_1).toNat * 13)).block, (ad487.add ((x5_1).toNat * 13)).off + 8, none⟩ = some (.int .i64 ((rd_T30 l0 x5_1).f4.f2)) ∧ w'.cell? ⟨(ad487.add ((x5_1).toNat * 13)).block, (ad487.add ((x5_1).toNat * 13)).off + 9, none⟩ = some (.int .i64 ((rd_T30 l0 x5_1).f4.f3)) ∧ w'.cell? ⟨(ad487.add ((x5_1).toNat * 13)).block, (ad487.add ((x5_1).toNat * 13)).off + 10, none⟩ = some (.int .i64 ((rd_T30 l0 x5_1).f4.f4)) ∧ w'.cell? ⟨(ad487.add ((x5_1).toNat * 13)).block, (ad487.add ((x5_1).toNat * 13)).off + 11, none⟩ = some (.int .i64 ((rd_T30 l0 x5_1).f4.f5)) ∧ w'.cell? ⟨(ad487.add ((x5_1).toNat * 13)).block, (ad487.add ((x5_1).toNat * 13)).off + 12, none⟩ = some (.int .i64 ((rd_T30 l0 x5_1).f4.f6))) (ds := []) #[false, false, false, false, false, false] (by kernel_rfl) rfl rfl ⟨(blk_cell BK486.out 0).trans rfl, (blk_cell BK486.out 1).trans rfl, (blk_cell BK486.out 2).trans rfl, (blk_cell BK486.out 3).trans rfl, (blk_cell BK486.out 4).trans rfl, (blk_cell BK486.out 5).trans rfl, (blk_cell BK486.out 6).trans rfl, (blk_cell BK486.out 7).trans rfl, (blk_cell BK486.out 8).trans rfl, (blk_cell BK486.out 9).trans rfl, (blk_cell BK486.out 10).trans rfl, (blk_cell BK486.out 11).trans rfl, (blk_cell BK486.out 12).trans rfl, (hbC HB hw487_0), (hbC HB hw487_1), (hbC HB hw487_2), (hbC HB hw487_3), (hbC HB hw487_4), (hbC HB hw487_5), (hbC HB hw487_6), (hbC HB hw487_7), (hbC HB hw487_8), (hbC HB hw487_9), (hbC HB hw487_10), (hbC HB hw487_11), (hbC HB hw487_12)⟩ (fun hHeld => ?_)
     generalize wr.drew = w10 at BK486 HB hx487_0 hx487_1 hx487_10 hx487_11 hx487_12 hx487_2 hx487_3 hx487_4 hx487_5 hx487_6 hx487_7 hx487_8 hx487_9 hHeld ⊢
     refine puA 0 12 (bs 6 1) ?_
     refine puA 1 13 (bs 6 3) ?_
     refine puA 2 14 (bs 6 7) ?_
     refine tkA 3 15 (bs 6 15) hHeld ?_
     refine tkA 4 16 (bs 6 31) hHeld ?_
     refine one_ (i := 5) (N := some 17) (bs 6 63) rfl rfl (by kernel_rfl) (by decide) (fun K hK => ?_)
     refine goes_ Try.func64 (by kernel_rfl) rfl #[.agg #[.int .i64 ((rd_T30 l0 x5_1).f0.f0), .int .i64 ((rd_T30 l0 x5_1).f0.f1), .int .i64 ((rd_T30 l0 x5_1).f1), .int .i64 ((rd_T30 l0 x5_1).f2.f0), .int .i64 ((rd_T30 l0 x5_1).f2.f1), .bool ((rd_T30 l0 x5_1).f3), .int .i64 ((rd_T30 l0 x5_1).f4.f0), .int .i64 ((rd_T30 l0 x5_1).f4.f1), .int .i64 ((rd_T30 l0 x5_1).f4.f2), .int .i64 ((rd_T30 l0 x5_1).f4.f3), .int .i64 ((rd_T30 l0 x5_1).f4.f4), .int .i64 ((rd_T30 l0 x5_1).f4.f5), .int .i64 ((rd_T30 l0 x5_1).f4.f6)], .agg #[.int .i64 a1_0, .int .i64 a1_1, .int .i64 a1_2, .int .i64 a1_3, .int .i64 a1_4, .bool a1_5, .int .i64 a1_6, .int .i64 a1_7, .int .i64 a1_8, .int .i64 a1_9, .int .i64 a1_10, .int .i64 a1_11, .int .i64 a1_12]] (by rfl) rfl rfl (by (try simp only [List.map_toArray, List.map_cons, List.map_nil]); first | done | rfl | (simp only [List.length_drop, List.length_take]; rfl)) ?_
     with_reducible refine (dancestudioref57_founds.calls ((rd_T30 l0 x5_1).f0.f0) ((rd_T30 l0 x5_1).f0.f1) ((rd_T30 l0 x5_1).f1) ((rd_T30 l0 x5_1).f2.f0) ((rd_T30 l0 x5_1).f2.f1) ((rd_T30 l0 x5_1).f3) ((rd_T30 l0 x5_1).f4.f0) ((rd_T30 l0 x5_1).f4.f1) ((rd_T30 l0 x5_1).f4.f2) ((rd_T30 l0 x5_1).f4.f3) ((rd_T30 l0 x5_1).f4.f4) ((rd_T30 l0 x5_1).f4.f5) ((rd_T30 l0 x5_1).f4.f6) a1_0 a1_1 a1_2 a1_3 a1_4 a1_5 a1_6 a1_7 a1_8 a1_9 a1_10 a1_11 a1_12 false _ A6.out).mono ?_
     rintro e w11 ⟨rfl, hb⟩
     refine ⟨_, rfl, ?_⟩
     replace BK486 := Aside0.mk (blk_below (bU BK486.out) hb)
     replace HB := Aside0.mk (below_step (hU HB.out) hb)
     (try clear hb)
     (try clear hb2)
     (try clear hk)
     (try clear hi)
     refine hK.out _ _ ⟨(blk_cell BK486.out 0).trans rfl, (blk_cell BK486.out 1).trans rfl, (blk_cell BK486.out 2).trans rfl, (blk_cell BK486.out 3).trans rfl, (blk_cell BK486.out 4).trans rfl, (blk_cell BK486.out 5).trans rfl, (blk_cell BK486.out 6).trans rfl, (blk_cell BK486.out 7).trans rfl, (blk_cell BK486.out 8).trans rfl, (blk_cell BK486.out 9).trans rfl, (blk_cell BK486.out 10).trans rfl, (blk_cell BK486.out 11).trans rfl, (blk_cell BK486.out 12).trans rfl, (hbC HB hw487_0), (hbC HB hw487_1), (hbC HB hw487_2), (hbC HB hw487_3), (hbC HB hw487_4), (hbC HB hw487_5), (hbC HB hw487_6), (hbC HB hw487_7), (hbC HB hw487_8), (hbC HB hw487_9), (hbC HB hw487_10), (hbC HB hw487_11), (hbC HB hw487_12)⟩ (fun hHeld => ?_)
     clear hK K
     refine nmA 17 ?_
     refine done_ (by kernel_rfl) ?_
     try go_wp2
     go_roundg k1
     case measure => have := HK1.out; omega
     case rel => exact ⟨(wrap64 (x5_1 + 1)), (by first | rfl | (simp; done) | (simp [*]; done)), H', ⟨by have := HK1.out; omega⟩, ⟨by (with_reducible repeat (first | refine blk_drewN ?_ _ | refine blk_drew ?_ | refine blk_alloc ?_ _)); exact BK486.out⟩, ⟨hU HB.out⟩⟩
   ·rw [if_neg c4] at H
    have c4b0 : decide (x5_1 < (l0.length : Int)) = false := decide_eq_false c4
    clear c4
    obtain rfl := Option.some.inj H
    go_wp2
    go_ret
    exact ⟨by first | rfl | (simp [errW_none, errW_some] <;> rfl) | (simp [*, errW_none, errW_some] <;> rfl), hU HB.out⟩
end Go.Proofs.Yteopkkoblbmggaa.P
end

-- Written by a program of this session (myprint.py over the kit's print): the Go functions of the seat as Lean functions, and what their calls do.
import Derived.Test.YtdilndbanhianaaUReg
import Derived.Test.YtdilndbanhianaaUMA
import Derived.Test.YtdilndbanhianaaUMB
import Derived.Test.YtdilndbanhianaaP19
namespace Go.Proofs.Ytdilndbanhianaa.P
open Go.RowKit Go.Proofs.YtdilndbanhianaaW.PrintWords Go.Proofs.YtdilndbanhianaaW.PrintLast Go.Proofs.YtdilndbanhianaaW.PrintMore
attribute [local go_sem] max2_int min2_int max_two min_two max_three min_three max_four min_four   -- for this text's walks alone
set_option linter.unusedVariables false
set_option linter.unusedSimpArgs false

/-! ### dancestudioref24_Put: function 24 -/
mutual
def dancestudioref24_Put.l0 : Nat → List (S29) → Int → Int → Int → Int → Int → Int → Int → Int → Option ((List (S29)) × Int)
 | 0, _, _, _, _, _, _, _, _, _ => none
 | k + 1, x0, x10, x300000, x300001, x300002, x300003, x300004, x300005, x300006 => if x10 < (x0.length : Int) then (if 0 ≤ x10 then ((dancestudioref24_Common.f ((rd_T29 x0 x10).f0) ((rd_T29 x0 x10).f1) ((rd_T29 x0 x10).f2) ((rd_T29 x0 x10).f3) ((rd_T29 x0 x10).f4) ((rd_T29 x0 x10).f5) ((rd_T29 x0 x10).f6) x300000 x300001 x300002 x300003 x300004 x300005 x300006).bind fun t304 => (if t304 = true then (some (([] : List (S29)), 17)) else (dancestudioref24_Put.l0 k x0 (wrap64 (x10 + 1)) x300000 x300001 x300002 x300003 x300004 x300005 x300006))) else (none)) else (if (x0.length : Int) = 256 then (some (([] : List (S29)), 3)) else (dancestudioref24_Put.l1 k x0 ([] : List (S29)) 0 x300000 x300001 x300002 x300003 x300004 x300005 x300006))
def dancestudioref24_Put.l1 : Nat → List (S29) → List (S29) → Int → Int → Int → Int → Int → Int → Int → Int → Option ((List (S29)) × Int)
 | 0, _, _, _, _, _, _, _, _, _, _ => none
 | k + 1, x0, x11, x12, x300000, x300001, x300002, x300003, x300004, x300005, x300006 => if x12 < (x0.length : Int) then (if 0 ≤ x12 then ((dancestudioref23_Less.f ((rd_T29 x0 x12).f0) ((rd_T29 x0 x12).f1) ((rd_T29 x0 x12).f2) ((rd_T29 x0 x12).f3) ((rd_T29 x0 x12).f4) ((rd_T29 x0 x12).f5) ((rd_T29 x0 x12).f6) x300000 x300001 x300002 x300003 x300004 x300005 x300006).bind fun t306 => (if t306 = true then (if x11.length < 2513169434916 then (dancestudioref24_Put.l1 k x0 (x11 ++ [(⟨(rd_T29 x0 x12).f0, (rd_T29 x0 x12).f1, (rd_T29 x0 x12).f2, (rd_T29 x0 x12).f3, (rd_T29 x0 x12).f4, (rd_T29 x0 x12).f5, (rd_T29 x0 x12).f6⟩ : S29)]) (wrap64 (x12 + 1)) x300000 x300001 x300002 x300003 x300004 x300005 x300006) else (none)) else (dancestudioref24_Put.l1 k x0 x11 (wrap64 (x12 + 1)) x300000 x300001 x300002 x300003 x300004 x300005 x300006))) else (none)) else (if x11.length < 2513169434916 then (dancestudioref24_Put.l2 k x0 (x11 ++ [(⟨x300000, x300001, x300002, x300003, x300004, x300005, x300006⟩ : S29)]) 0 x300000 x300001 x300002 x300003 x300004 x300005 x300006) else (none))
def dancestudioref24_Put.l2 : Nat → List (S29) → List (S29) → Int → Int → Int → Int → Int → Int → Int → Int → Option ((List (S29)) × Int)
 | 0, _, _, _, _, _, _, _, _, _, _ => none
 | k + 1, x0, x11, x13, x300000, x300001, x300002, x300003, x300004, x300005, x300006 => if x13 < (x0.length : Int) then (if 0 ≤ x13 then ((dancestudioref23_Less.f ((rd_T29 x0 x13).f0) ((rd_T29 x0 x13).f1) ((rd_T29 x0 x13).f2) ((rd_T29 x0 x13).f3) ((rd_T29 x0 x13).f4) ((rd_T29 x0 x13).f5) ((rd_T29 x0 x13).f6) x300000 x300001 x300002 x300003 x300004 x300005 x300006).bind fun t315 => (if t315 = true then (dancestudioref24_Put.l2 k x0 x11 (wrap64 (x13 + 1)) x300000 x300001 x300002 x300003 x300004 x300005 x300006) else (if x11.length < 2513169434916 then (dancestudioref24_Put.l2 k x0 (x11 ++ [(⟨(rd_T29 x0 x13).f0, (rd_T29 x0 x13).f1, (rd_T29 x0 x13).f2, (rd_T29 x0 x13).f3, (rd_T29 x0 x13).f4, (rd_T29 x0 x13).f5, (rd_T29 x0 x13).f6⟩ : S29)]) (wrap64 (x13 + 1)) x300000 x300001 x300002 x300003 x300004 x300005 x300006) else (none)))) else (none)) else (some (x11, 0))
end
def dancestudioref24_Put.f (k : Nat) (l0 : List (S29)) (a1 : Int) (a2_0 : Int) (a2_1 : Int) (a2_2 : Int) (a2_3 : Int) (a2_4 : Int) (a2_5 : Int) (a2_6 : Int) : Option ((List (S29)) × Int) := (dancestudioref24_Check.f k l0 a1).bind fun t300 => (if t300 = 0 then ((dancestudioref23_Check.f k a2_0 a2_1 a2_2 a2_3 a2_4 a2_5 a2_6).bind fun t301 => (if t301 = 0 then ((dancestudioref24_end.f a2_0 a2_1 a2_2 a2_3 a2_4 a2_5 a2_6).bind fun t302 => (if t302 > a1 then (some (([] : List (S29)), 1)) else (dancestudioref24_Put.l0 k l0 0 a2_0 a2_1 a2_2 a2_3 a2_4 a2_5 a2_6))) else (some (([] : List (S29)), t301)))) else (some (([] : List (S29)), t300)))
theorem dancestudioref24_Put.mono_l : ∀ k, (∀ y0 y1 y2 y3 y4 y5 y6 y7 y8, LeO (dancestudioref24_Put.l0 k y0 y1 y2 y3 y4 y5 y6 y7 y8) (dancestudioref24_Put.l0 (k + 1) y0 y1 y2 y3 y4 y5 y6 y7 y8)) ∧ (∀ y0 y1 y2 y3 y4 y5 y6 y7 y8 y9, LeO (dancestudioref24_Put.l1 k y0 y1 y2 y3 y4 y5 y6 y7 y8 y9) (dancestudioref24_Put.l1 (k + 1) y0 y1 y2 y3 y4 y5 y6 y7 y8 y9)) ∧ (∀ y0 y1 y2 y3 y4 y5 y6 y7 y8 y9, LeO (dancestudioref24_Put.l2 k y0 y1 y2 y3 y4 y5 y6 y7 y8 y9) (dancestudioref24_Put.l2 (k + 1) y0 y1 y2 y3 y4 y5 y6 y7 y8 y9))
 | 0 => ⟨fun _ _ _ _ _ _ _ _ _ r h => by simp [dancestudioref24_Put.l0] at h, fun _ _ _ _ _ _ _ _ _ _ r h => by simp [dancestudioref24_Put.l1] at h, fun _ _ _ _ _ _ _ _ _ _ r h => by simp [dancestudioref24_Put.l2] at h⟩
 | k + 1 => by
  obtain ⟨ih0, ih1, ih2⟩ := dancestudioref24_Put.mono_l k
  refine ⟨?_, ?_, ?_⟩
  ·intro y0 y1 y2 y3 y4 y5 y6 y7 y8
   unfold dancestudioref24_Put.l0
   repeat' first
   | (with_reducible exact ih0 _ _ _ _ _ _ _ _ _)
   | (with_reducible exact ih1 _ _ _ _ _ _ _ _ _ _)
   | (with_reducible exact ih2 _ _ _ _ _ _ _ _ _ _)
   | (with_reducible exact dancestudioref23_Check.mono _ _ _ _ _ _ _ _)
   | (with_reducible exact dancestudioref24_Check.mono _ _ _)
   | (with_reducible exact LeO.refl _)
   | (with_reducible exact LeO.none _)
   | (with_reducible refine LeO.ite ?_ ?_)
   | (with_reducible refine LeO.bind ?_ (fun _ => ?_))
   | exact ih0 _ _ _ _ _ _ _ _ _
   | exact ih1 _ _ _ _ _ _ _ _ _ _
   | exact ih2 _ _ _ _ _ _ _ _ _ _
   | exact dancestudioref23_Check.mono _ _ _ _ _ _ _ _
   | exact dancestudioref24_Check.mono _ _ _
   | exact LeO.none _
   | refine LeO.ite ?_ ?_
   | refine LeO.bind ?_ (fun _ => ?_)
  ·intro y0 y1 y2 y3 y4 y5 y6 y7 y8 y9
   unfold dancestudioref24_Put.l1
   repeat' first
   | (with_reducible exact ih0 _ _ _ _ _ _ _ _ _)
   | (with_reducible exact ih1 _ _ _ _ _ _ _ _ _ _)
   | (with_reducible exact ih2 _ _ _ _ _ _ _ _ _ _)
   | (with_reducible exact dancestudioref23_Check.mono _ _ _ _ _ _ _ _)
   | (with_reducible exact dancestudioref24_Check.mono _ _ _)
   | (with_reducible exact LeO.refl _)
   | (with_reducible exact LeO.none _)
   | (with_reducible refine LeO.ite ?_ ?_)
   | (with_reducible refine LeO.bind ?_ (fun _ => ?_))
   | exact ih0 _ _ _ _ _ _ _ _ _
   | exact ih1 _ _ _ _ _ _ _ _ _ _
   | exact ih2 _ _ _ _ _ _ _ _ _ _
   | exact dancestudioref23_Check.mono _ _ _ _ _ _ _ _
   | exact dancestudioref24_Check.mono _ _ _
   | exact LeO.none _
   | refine LeO.ite ?_ ?_
   | refine LeO.bind ?_ (fun _ => ?_)
  ·intro y0 y1 y2 y3 y4 y5 y6 y7 y8 y9
   unfold dancestudioref24_Put.l2
   repeat' first
   | (with_reducible exact ih0 _ _ _ _ _ _ _ _ _)
   | (with_reducible exact ih1 _ _ _ _ _ _ _ _ _ _)
   | (with_reducible exact ih2 _ _ _ _ _ _ _ _ _ _)
   | (with_reducible exact dancestudioref23_Check.mono _ _ _ _ _ _ _ _)
   | (with_reducible exact dancestudioref24_Check.mono _ _ _)
   | (with_reducible exact LeO.refl _)
   | (with_reducible exact LeO.none _)
   | (with_reducible refine LeO.ite ?_ ?_)
   | (with_reducible refine LeO.bind ?_ (fun _ => ?_))
   | exact ih0 _ _ _ _ _ _ _ _ _
   | exact ih1 _ _ _ _ _ _ _ _ _ _
   | exact ih2 _ _ _ _ _ _ _ _ _ _
   | exact dancestudioref23_Check.mono _ _ _ _ _ _ _ _
   | exact dancestudioref24_Check.mono _ _ _
   | exact LeO.none _
   | refine LeO.ite ?_ ?_
   | refine LeO.bind ?_ (fun _ => ?_)
theorem dancestudioref24_Put.mono : ∀ a0 a1 a2 a3 a4 a5 a6 a7 a8 k, LeO (dancestudioref24_Put.f k a0 a1 a2 a3 a4 a5 a6 a7 a8) (dancestudioref24_Put.f (k + 1) a0 a1 a2 a3 a4 a5 a6 a7 a8) := by
 intro a0 a1 a2 a3 a4 a5 a6 a7 a8 k
 obtain ⟨ih0, ih1, ih2⟩ := dancestudioref24_Put.mono_l k
 unfold dancestudioref24_Put.f
 repeat' first
   | (with_reducible exact ih0 _ _ _ _ _ _ _ _ _)
   | (with_reducible exact ih1 _ _ _ _ _ _ _ _ _ _)
   | (with_reducible exact ih2 _ _ _ _ _ _ _ _ _ _)
   | (with_reducible exact dancestudioref23_Check.mono _ _ _ _ _ _ _ _)
   | (with_reducible exact dancestudioref24_Check.mono _ _ _)
   | (with_reducible exact LeO.refl _)
   | (with_reducible exact LeO.none _)
   | (with_reducible refine LeO.ite ?_ ?_)
   | (with_reducible refine LeO.bind ?_ (fun _ => ?_))
   | exact ih0 _ _ _ _ _ _ _ _ _
   | exact ih1 _ _ _ _ _ _ _ _ _ _
   | exact ih2 _ _ _ _ _ _ _ _ _ _
   | exact dancestudioref23_Check.mono _ _ _ _ _ _ _ _
   | exact dancestudioref24_Check.mono _ _ _
   | exact LeO.none _
   | refine LeO.ite ?_ ?_
   | refine LeO.bind ?_ (fun _ => ?_)
set_option maxHeartbeats 8000000 in
set_option maxRecDepth 100000 in
theorem dancestudioref24_Put.calls (k : Nat) (A0 : Option Addr) (c0 : Nat) (l0 : List (S29)) (a1 : Int) (a2_0 : Int) (a2_1 : Int) (a2_2 : Int) (a2_3 : Int) (a2_4 : Int) (a2_5 : Int) (a2_6 : Int) (r1 : List (S29)) (r2 : Int) (w : World) (hr0 : Kd.C k29 w A0 l0.length l0) (hc0 : l0.length ≤ c0) (h : dancestudioref24_Put.f k l0 a1 a2_0 a2_1 a2_2 a2_3 a2_4 a2_5 a2_6 = some (r1, r2)) :
  Calls Try.prog 24 #[.slice A0 l0.length c0, .int .i64 a1, .agg #[.int .i64 a2_0, .int .i64 a2_1, .int .i64 a2_2, .int .i64 a2_3, .int .i64 a2_4, .int .i64 a2_5, .int .i64 a2_6]] w fun e w' => ∃ v0_ : Value, e = .returned (.tuple #[v0_, .int .i64 r2]) ∧ Kd.R k29 29 w' w.heap.size (fun _ => True) v0_ r1 ∧ Below w.heap.size w w' := by
 have hu29 := Try.underlying29
 have HR0 := Aside0.mk hr0
 have HC0 := Aside0.mk hc0
 clear hr0 hc0
 have HB := Aside0.mk (Below.refl w.heap.size w)
 have H : ((dancestudioref24_Check.f k l0 a1).bind fun t300 => (if t300 = 0 then ((dancestudioref23_Check.f k a2_0 a2_1 a2_2 a2_3 a2_4 a2_5 a2_6).bind fun t301 => (if t301 = 0 then ((dancestudioref24_end.f a2_0 a2_1 a2_2 a2_3 a2_4 a2_5 a2_6).bind fun t302 => (if t302 > a1 then (some (([] : List (S29)), 1)) else (dancestudioref24_Put.l0 k l0 0 a2_0 a2_1 a2_2 a2_3 a2_4 a2_5 a2_6))) else (some (([] : List (S29)), t301)))) else (some (([] : List (S29)), t300)))) = some (r1, r2) := h
 clear h
 replace H := Option.bind_eq_some_iff.mp H
 obtain ⟨t300, A40, H⟩ := H
 try dsimp only at H
 have A4 := Aside0.mk A40
 clear A40
 by_cases c5 : t300 = 0
 ·rw [if_pos c5] at H
  have c5b0 : (t300 == 0) = true := beq_iff_eq.mpr c5
  have c5b1 : (t300 != 0) = false := bne_eq_false_iff_eq.mpr c5
  clear c5
  replace H := Option.bind_eq_some_iff.mp H
  obtain ⟨t301, A60, H⟩ := H
  try dsimp only at H
  have A6 := Aside0.mk A60
  clear A60
  by_cases c7 : t301 = 0
  ·rw [if_pos c7] at H
   have c7b0 : (t301 == 0) = true := beq_iff_eq.mpr c7
   have c7b1 : (t301 != 0) = false := bne_eq_false_iff_eq.mpr c7
   clear c7
   replace H := Option.bind_eq_some_iff.mp H
   obtain ⟨t302, A80, H⟩ := H
   replace H : (if t302 > a1 then (some (([] : List (S29)), 1)) else (dancestudioref24_Put.l0 k l0 0 a2_0 a2_1 a2_2 a2_3 a2_4 a2_5 a2_6)) = some (r1, r2) := H
   have A8 := Aside0.mk A80
   clear A80
   by_cases c9 : t302 > a1
   ·rw [if_pos c9] at H
    have c9b0 : decide (a1 < t302) = true := decide_eq_true c9
    clear c9
    simp only [Option.some.injEq, Prod.mk.injEq] at H
    obtain ⟨rfl, rfl⟩ := H
    go_enter Try.func24, Try.ntmps24
    go_wp2_with (first | ((with_reducible refine gate_dst (N := 5) rfl ?_); refine box_event ?hg (N := 5) ?hd (cs := #[.int .i64 a2_0, .int .i64 a2_1, .int .i64 a2_2, .int .i64 a2_3, .int .i64 a2_4, .int .i64 a2_5, .int .i64 a2_6]) (t := 29) ?hr ?_; (case hd => rfl); (case hg => rfl); (case hr => first | (go_simp; done) | (go_simp; rfl)); intro gb299 hg w10 hbox hb; have n0_ := Aside0.mk (below_step (hU HB.out) hb); have n1_ := Aside0.mk (hbox); have n2_ := Aside0.mk ((by rw [hg]; exact (below_size (hU HB.out)) : w.heap.size ≤ gb299)); have n3_ := Aside0.mk ((by rw [hg]; exact (below_size (hU HB.out)) : w.heap.size ≤ gb299)); clear HB; have HB := n0_; have BK299 := n1_; have GW299 := n2_; have GE299 := n3_; clear n0_ n1_ n2_ n3_; clear hb hbox hg) | ((with_reducible refine gate_callee (f := 21) rfl ?_); refine goesL_ (some 16) rfl rfl Try.func21 (by kernel_rfl) rfl #[.slice A0 l0.length c0, .int .i64 a1] rfl (by (try simp only [List.map_toArray, List.map_cons, List.map_nil]); first | done | rfl | (simp only [List.length_drop, List.length_take]; rfl)) ?_; (with_reducible refine (dancestudioref24_Check.calls k _ _ l0 a1 t300 _ ?side1 ?side2 A4.out).mono ?_); (case side1 => repeat (first | exact (Kd.C_below HR0.out HB.out) | (with_reducible refine Kd.C_alloc ?_ _) | (with_reducible refine Kd.C_drewN ?_ _) | (with_reducible refine Kd.C_drew ?_))); (case side2 => exact HC0.out); rintro e w11 ⟨rfl, hb⟩; refine ⟨_, rfl, ?_⟩; have n0_ := Aside0.mk (blk_below (bU BK299.out) hb); have n1_ := Aside0.mk (below_step (hU HB.out) hb); clear BK299; clear HB; have BK299 := n0_; have HB := n1_; clear n0_ n1_; (try clear hb); (try clear hb2); (try clear hk); (try clear hi); have hcz12_0 := blk_cell BK299.out; have hfz12_0 := blk_frozen BK299.out) | ((with_reducible refine gate_callee (f := 55) rfl ?_); refine goesL_ (some 21) rfl rfl Try.func55 (by kernel_rfl) rfl #[.agg #[.int .i64 a2_0, .int .i64 a2_1, .int .i64 a2_2, .int .i64 a2_3, .int .i64 a2_4, .int .i64 a2_5, .int .i64 a2_6]] rfl (by (try simp only [List.map_toArray, List.map_cons, List.map_nil]); first | done | rfl | (simp only [List.length_drop, List.length_take]; rfl)) ?_; (with_reducible refine (dancestudioref23_Check.calls k a2_0 a2_1 a2_2 a2_3 a2_4 a2_5 a2_6 t301 _ A6.out).mono ?_); rintro e w13 ⟨rfl, hb⟩; refine ⟨_, rfl, ?_⟩; have n0_ := Aside0.mk (blk_below (bU BK299.out) hb); have n1_ := Aside0.mk (below_step (hU HB.out) hb); clear BK299; clear HB; have BK299 := n0_; have HB := n1_; clear n0_ n1_; (try clear hb); (try clear hb2); (try clear hk); (try clear hi); have hcz14_0 := blk_cell BK299.out; have hfz14_0 := blk_frozen BK299.out) | ((with_reducible refine gate_callee (f := 57) rfl ?_); refine goesL_ (some 26) rfl rfl Try.func57 (by kernel_rfl) rfl #[.agg #[.int .i64 a2_0, .int .i64 a2_1, .int .i64 a2_2, .int .i64 a2_3, .int .i64 a2_4, .int .i64 a2_5, .int .i64 a2_6]] rfl (by (try simp only [List.map_toArray, List.map_cons, List.map_nil]); first | done | rfl | (simp only [List.length_drop, List.length_take]; rfl)) ?_; (with_reducible refine (dancestudioref24_end.calls a2_0 a2_1 a2_2 a2_3 a2_4 a2_5 a2_6 t302 _ A8.out).mono ?_); rintro e w15 ⟨rfl, hb⟩; refine ⟨_, rfl, ?_⟩; have n0_ := Aside0.mk (blk_below (bU BK299.out) hb); have n1_ := Aside0.mk (below_step (hU HB.out) hb); clear BK299; clear HB; have BK299 := n0_; have HB := n1_; clear n0_ n1_; (try clear hb); (try clear hb2); (try clear hk); (try clear hi)))
    go_ret2
    exact ⟨_, by first | rfl | (simp [errW_none, errW_some] <;> rfl) | (simp [*, errW_none, errW_some] <;> rfl), by first | exact Kd.R_nil _ _ _ _ _ | exact Kd.N_nil _ _ _ _ _ | exact Kd.V_nil _ _ _ _ _ | exact Kd.Q_nil _ _ _ _ _ | exact Kd.S_nil _ _ _ _ _, hU HB.out⟩
   ·rw [if_neg c9] at H
    have c9b0 : decide (a1 < t302) = false := decide_eq_false c9
    clear c9
    have H' := Aside0.mk H
    clear H
    go_enter Try.func24, Try.ntmps24
    go_wp2_with (first | ((with_reducible refine gate_dst (N := 5) rfl ?_); refine box_event ?hg (N := 5) ?hd (cs := #[.int .i64 a2_0, .int .i64 a2_1, .int .i64 a2_2, .int .i64 a2_3, .int .i64 a2_4, .int .i64 a2_5, .int .i64 a2_6]) (t := 29) ?hr ?_; (case hd => rfl); (case hg => rfl); (case hr => first | (go_simp; done) | (go_simp; rfl)); intro gb299 hg w16 hbox hb; have n0_ := Aside0.mk (below_step (hU HB.out) hb); have n1_ := Aside0.mk (hbox); have n2_ := Aside0.mk ((by rw [hg]; exact (below_size (hU HB.out)) : w.heap.size ≤ gb299)); have n3_ := Aside0.mk ((by rw [hg]; exact (below_size (hU HB.out)) : w.heap.size ≤ gb299)); clear HB; have HB := n0_; have BK299 := n1_; have GW299 := n2_; have GE299 := n3_; clear n0_ n1_ n2_ n3_; clear hb hbox hg) | ((with_reducible refine gate_callee (f := 21) rfl ?_); refine goesL_ (some 16) rfl rfl Try.func21 (by kernel_rfl) rfl #[.slice A0 l0.length c0, .int .i64 a1] rfl (by (try simp only [List.map_toArray, List.map_cons, List.map_nil]); first | done | rfl | (simp only [List.length_drop, List.length_take]; rfl)) ?_; (with_reducible refine (dancestudioref24_Check.calls k _ _ l0 a1 t300 _ ?side1 ?side2 A4.out).mono ?_); (case side1 => repeat (first | exact (Kd.C_below HR0.out HB.out) | (with_reducible refine Kd.C_alloc ?_ _) | (with_reducible refine Kd.C_drewN ?_ _) | (with_reducible refine Kd.C_drew ?_))); (case side2 => exact HC0.out); rintro e w17 ⟨rfl, hb⟩; refine ⟨_, rfl, ?_⟩; have n0_ := Aside0.mk (blk_below (bU BK299.out) hb); have n1_ := Aside0.mk (below_step (hU HB.out) hb); clear BK299; clear HB; have BK299 := n0_; have HB := n1_; clear n0_ n1_; (try clear hb); (try clear hb2); (try clear hk); (try clear hi); have hcz18_0 := blk_cell BK299.out; have hfz18_0 := blk_frozen BK299.out) | ((with_reducible refine gate_callee (f := 55) rfl ?_); refine goesL_ (some 21) rfl rfl Try.func55 (by kernel_rfl) rfl #[.agg #[.int .i64 a2_0, .int .i64 a2_1, .int .i64 a2_2, .int .i64 a2_3, .int .i64 a2_4, .int .i64 a2_5, .int .i64 a2_6]] rfl (by (try simp only [List.map_toArray, List.map_cons, List.map_nil]); first | done | rfl | (simp only [List.length_drop, List.length_take]; rfl)) ?_; (with_reducible refine (dancestudioref23_Check.calls k a2_0 a2_1 a2_2 a2_3 a2_4 a2_5 a2_6 t301 _ A6.out).mono ?_); rintro e w19 ⟨rfl, hb⟩; refine ⟨_, rfl, ?_⟩; have n0_ := Aside0.mk (blk_below (bU BK299.out) hb); have n1_ := Aside0.mk (below_step (hU HB.out) hb); clear BK299; clear HB; have BK299 := n0_; have HB := n1_; clear n0_ n1_; (try clear hb); (try clear hb2); (try clear hk); (try clear hi); have hcz20_0 := blk_cell BK299.out; have hfz20_0 := blk_frozen BK299.out) | ((with_reducible refine gate_callee (f := 57) rfl ?_); refine goesL_ (some 26) rfl rfl Try.func57 (by kernel_rfl) rfl #[.agg #[.int .i64 a2_0, .int .i64 a2_1, .int .i64 a2_2, .int .i64 a2_3, .int .i64 a2_4, .int .i64 a2_5, .int .i64 a2_6]] rfl (by (try simp only [List.map_toArray, List.map_cons, List.map_nil]); first | done | rfl | (simp only [List.length_drop, List.length_take]; rfl)) ?_; (with_reducible refine (dancestudioref24_end.calls a2_0 a2_1 a2_2 a2_3 a2_4 a2_5 a2_6 t302 _ A8.out).mono ?_); rintro e w21 ⟨rfl, hb⟩; refine ⟨_, rfl, ?_⟩; have n0_ := Aside0.mk (blk_below (bU BK299.out) hb); have n1_ := Aside0.mk (below_step (hU HB.out) hb); clear BK299; clear HB; have BK299 := n0_; have HB := n1_; clear n0_ n1_; (try clear hb); (try clear hb2); (try clear hk); (try clear hi)))
    go_loopg [10] k (fun kq v10 w' => ∃ (x10_1 : Int), v10 = .int .i64 x10_1 ∧ Aside0 (dancestudioref24_Put.l0 kq l0 x10_1 a2_0 a2_1 a2_2 a2_3 a2_4 a2_5 a2_6 = some (r1, r2)) ∧ Aside0 (kq ≤ k) ∧ Aside0 (w'.heap[gb299]? = some (.cells #[.int .i64 a2_0, .int .i64 a2_1, .int .i64 a2_2, .int .i64 a2_3, .int .i64 a2_4, .int .i64 a2_5, .int .i64 a2_6] 29 (0, 0))) ∧ Aside0 (Below w.heap.size w w'))
    case atStart => exact ⟨(0), (by first | rfl | (simp; done) | (simp [*]; done)), H', ⟨Nat.le_refl _⟩, ⟨by (with_reducible repeat (first | refine blk_drewN ?_ _ | refine blk_drew ?_ | refine blk_alloc ?_ _)); exact BK299.out⟩, ⟨hU HB.out⟩⟩
    case round =>
     clear H'
     try clear c2
     try clear p2
     try clear c5
     try clear c5b0
     try clear c5b1
     try clear c7
     try clear c7b0
     try clear c7b1
     try clear c9
     try clear c9b0
     try clear c21
     try clear hcz12_0
     try clear hcz12_1
     try clear hcz12_2
     try clear hcz12_3
     try clear hcz12_4
     try clear hcz12_5
     try clear hcz12_6
     try clear hcz14_0
     try clear hcz14_1
     try clear hcz14_2
     try clear hcz14_3
     try clear hcz14_4
     try clear hcz14_5
     try clear hcz14_6
     try clear hcz18_0
     try clear hcz18_1
     try clear hcz18_2
     try clear hcz18_3
     try clear hcz18_4
     try clear hcz18_5
     try clear hcz18_6
     try clear hcz20_0
     try clear hcz20_1
     try clear hcz20_2
     try clear hcz20_3
     try clear hcz20_4
     try clear hcz20_5
     try clear hcz20_6
     try clear hfz12_0
     try clear hfz12_1
     try clear hfz12_2
     try clear hfz12_3
     try clear hfz12_4
     try clear hfz12_5
     try clear hfz12_6
     try clear hfz14_0
     try clear hfz14_1
     try clear hfz14_2
     try clear hfz14_3
     try clear hfz14_4
     try clear hfz14_5
     try clear hfz14_6
     try clear hfz18_0
     try clear hfz18_1
     try clear hfz18_2
     try clear hfz18_3
     try clear hfz18_4
     try clear hfz18_5
     try clear hfz18_6
     try clear hfz20_0
     try clear hfz20_1
     try clear hfz20_2
     try clear hfz20_3
     try clear hfz20_4
     try clear hfz20_5
     try clear hfz20_6
     obtain ⟨x10_1, rfl, HA, HK1, BK299, HB⟩ := hrel
     cases gk with
     | zero => exact absurd HA.out (by simp [dancestudioref24_Put.l0])
     | succ k1 =>
      have H := HA.out
      clear HA
      simp only [dancestudioref24_Put.l0] at H
      by_cases c22 : x10_1 < (l0.length : Int)
      ·rw [if_pos c22] at H
       have c22b0 : decide (x10_1 < (l0.length : Int)) = true := decide_eq_true c22
       clear c22
       by_cases c23 : 0 ≤ x10_1
       ·rw [if_pos c23] at H
        have c23b0 : decide (0 ≤ x10_1) = true := decide_eq_true c23
        clear c23
        replace H := Option.bind_eq_some_iff.mp H
        obtain ⟨t304, A240, H⟩ := H
        try dsimp only at H
        have A24 := Aside0.mk A240
        clear A240
        by_cases c25 : t304 = true
        ·subst c25
         have H1 : (some (([] : List (S29)), 17)) = some (r1, r2) := by rw [if_pos rfl] at H; exact H
         clear H
         have H := H1
         clear H1
         simp only [Option.some.injEq, Prod.mk.injEq] at H
         obtain ⟨rfl, rfl⟩ := H
         try go_wp2
         have n0_ := Aside0.mk (blk_drew BK299.out)
         have n1_ := Aside0.mk (below_drew1 HB.out)
         clear BK299
         clear HB
         have BK299 := n0_
         have HB := n1_
         clear n0_ n1_
         have p303 : 0 ≤ (x10_1 : Int) := of_decide_eq_true (by first | (with_reducible assumption) | assumption)
         have q303 : x10_1 < (l0.length : Int) := of_decide_eq_true (by first | (with_reducible assumption) | assumption)
         obtain ⟨ad303, e303, hx303_0, hx303_1, hx303_2, hx303_3, hx303_4, hx303_5, hx303_6⟩ := at_T29 HR0.out x10_1 p303 q303
         have hw303_6 := hx303_6
         have hw303_5 := hx303_5
         have hw303_4 := hx303_4
         have hw303_3 := hx303_3
         have hw303_2 := hx303_2
         have hw303_1 := hx303_1
         have hw303_0 := hx303_0
         cases e303
         replace hx303_0 := hbC HB hx303_0
         replace hx303_1 := hbC HB hx303_1
         replace hx303_2 := hbC HB hx303_2
         replace hx303_3 := hbC HB hx303_3
         replace hx303_4 := hbC HB hx303_4
         replace hx303_5 := hbC HB hx303_5
         replace hx303_6 := hbC HB hx303_6
         replace p303 := eq_true p303
         replace q303 := eq_true q303
         refine start_ (n := 6) (S := fun w' => w'.cell? ⟨gb299, 0, none⟩ = some (.int .i64 a2_0) ∧ w'.cell? ⟨gb299, 1, none⟩ = some (.int .i64 a2_1) ∧ w'.cell? ⟨gb299, 2, none⟩ = some (.int .i64 a2_2) ∧ w'.cell? ⟨gb299, 3, none⟩ = some (.int .i64 a2_3) ∧ w'.cell? ⟨gb299, 4, none⟩ = some (.int .i64 a2_4) ∧ w'.cell? ⟨gb299, 5, none⟩ = some (.int .i64 a2_5) ∧ w'.cell? ⟨gb299, 6, none⟩ = some (.int .i64 a2_6) ∧ w'.cell? (ad303.add ((x10_1).toNat * 7)) = some (.int .i64 ((rd_T29 l0 x10_1).f0)) ∧ w'.cell? ⟨(ad303.add ((x10_1).toNat * 7)).block, (ad303.add ((x10_1).toNat * 7)).off + 1, none⟩ = some (.int .i64 ((rd_T29 l0 x10_1).f1)) ∧ w'.cell? ⟨(ad303.add ((x10_1).toNat * 7)).block, (ad303.add ((x10_1).toNat * 7)).off + 2, none⟩ = some (.int .i64 ((rd_T29 l0 x10_1).f2)) ∧ w'.cell? ⟨(ad303.add ((x10_1).toNat * 7)).block, (ad303.add ((x10_1).toNat * 7)).off + 3, none⟩ = some (.int .i64 ((rd_T29 l0 x10_1).f3)) ∧ w'.cell? ⟨(ad303.add ((x10_1).toNat * 7)).block, (ad303.add ((x10_1).toNat * 7)).off + 4, none⟩ = some (.int .i64 ((rd_T29 l0 x10_1).f4)) ∧ w'.cell? ⟨(ad303.add ((x10_1).toNat * 7)).block, (ad303.add ((x10_1).toNat * 7)).off + 5, none⟩ = some (.int .i64 ((rd_T29 l0 x10_1).f5)) ∧ w'.cell? ⟨(ad303.add ((x10_1).toNat * 7)).block, (ad303.add ((x10_1).toNat * 7)).off + 6, none⟩ = some (.int .i64 ((rd_T29 l0 x10_1).f6))) (ds := []) #[false, false, false, false, false, false] (by kernel_rfl) rfl rfl ⟨(blk_cell BK299.out 0).trans rfl, (blk_cell BK299.out 1).trans rfl, (blk_cell BK299.out 2).trans rfl, (blk_cell BK299.out 3).trans rfl, (blk_cell BK299.out 4).trans rfl, (blk_cell BK299.out 5).trans rfl, (blk_cell BK299.out 6).trans rfl, (hbC HB hw303_0), (hbC HB hw303_1), (hbC HB hw303_2), (hbC HB hw303_3), (hbC HB hw303_4), (hbC HB hw303_5), (hbC HB hw303_6)⟩ (fun hHeld => ?_)
         generalize wr.drew = w26 at BK299 HB hx303_0 hx303_1 hx303_2 hx303_3 hx303_4 hx303_5 hx303_6 hHeld ⊢
         refine puA 0 35 (bs 6 1) ?_
         refine puA 1 36 (bs 6 3) ?_
         refine puA 2 37 (bs 6 7) ?_
         refine tkA 3 38 (bs 6 15) hHeld ?_
         refine tkA 4 39 (bs 6 31) hHeld ?_
         refine one_ (i := 5) (N := some 40) (bs 6 63) rfl rfl (by kernel_rfl) (by decide) (fun K hK => ?_)
         refine goes_ Try.func63 (by kernel_rfl) rfl #[.agg #[.int .i64 ((rd_T29 l0 x10_1).f0), .int .i64 ((rd_T29 l0 x10_1).f1), .int .i64 ((rd_T29 l0 x10_1).f2), .int .i64 ((rd_T29 l0 x10_1).f3), .int .i64 ((rd_T29 l0 x10_1).f4), .int .i64 ((rd_T29 l0 x10_1).f5), .int .i64 ((rd_T29 l0 x10_1).f6)], .agg #[.int .i64 a2_0, .int .i64 a2_1, .int .i64 a2_2, .int .i64 a2_3, .int .i64 a2_4, .int .i64 a2_5, .int .i64 a2_6]] (by rfl) rfl rfl (by (try simp only [List.map_toArray, List.map_cons, List.map_nil]); first | done | rfl | (simp only [List.length_drop, List.length_take]; rfl)) ?_
         with_reducible refine (dancestudioref24_Common.calls ((rd_T29 l0 x10_1).f0) ((rd_T29 l0 x10_1).f1) ((rd_T29 l0 x10_1).f2) ((rd_T29 l0 x10_1).f3) ((rd_T29 l0 x10_1).f4) ((rd_T29 l0 x10_1).f5) ((rd_T29 l0 x10_1).f6) a2_0 a2_1 a2_2 a2_3 a2_4 a2_5 a2_6 true _ A24.out).mono ?_
         rintro e w27 ⟨rfl, hb⟩
         refine ⟨_, rfl, ?_⟩
         have n0_ := Aside0.mk (blk_below (bU BK299.out) hb)
         have n1_ := Aside0.mk (below_step (hU HB.out) hb)
         clear BK299
         clear HB
         have BK299 := n0_
         have HB := n1_
         clear n0_ n1_
         (try clear hb)
         (try clear hb2)
         (try clear hk)
         (try clear hi)
         refine hK.out _ _ ⟨(blk_cell BK299.out 0).trans rfl, (blk_cell BK299.out 1).trans rfl, (blk_cell BK299.out 2).trans rfl, (blk_cell BK299.out 3).trans rfl, (blk_cell BK299.out 4).trans rfl, (blk_cell BK299.out 5).trans rfl, (blk_cell BK299.out 6).trans rfl, (hbC HB hw303_0), (hbC HB hw303_1), (hbC HB hw303_2), (hbC HB hw303_3), (hbC HB hw303_4), (hbC HB hw303_5), (hbC HB hw303_6)⟩ (fun hHeld => ?_)
         clear hK K
         refine nmA 40 ?_
         refine done_ (by kernel_rfl) ?_
         try go_wp2
         go_ret2
         exact ⟨_, by first | rfl | (simp [errW_none, errW_some] <;> rfl) | (simp [*, errW_none, errW_some] <;> rfl), by first | exact Kd.R_nil _ _ _ _ _ | exact Kd.N_nil _ _ _ _ _ | exact Kd.V_nil _ _ _ _ _ | exact Kd.Q_nil _ _ _ _ _ | exact Kd.S_nil _ _ _ _ _, hU HB.out⟩
        ·replace c25 := Bool.eq_false_iff.mpr c25
         subst c25
         have H1 : (dancestudioref24_Put.l0 k1 l0 (wrap64 (x10_1 + 1)) a2_0 a2_1 a2_2 a2_3 a2_4 a2_5 a2_6) = some (r1, r2) := by rw [if_neg (show ¬ (false = true) by decide)] at H; exact H
         clear H
         have H := H1
         clear H1
         have H' := Aside0.mk H
         clear H
         try go_wp2
         have n0_ := Aside0.mk (blk_drew BK299.out)
         have n1_ := Aside0.mk (below_drew1 HB.out)
         clear BK299
         clear HB
         have BK299 := n0_
         have HB := n1_
         clear n0_ n1_
         have p303 : 0 ≤ (x10_1 : Int) := of_decide_eq_true (by first | (with_reducible assumption) | assumption)
         have q303 : x10_1 < (l0.length : Int) := of_decide_eq_true (by first | (with_reducible assumption) | assumption)
         obtain ⟨ad303, e303, hx303_0, hx303_1, hx303_2, hx303_3, hx303_4, hx303_5, hx303_6⟩ := at_T29 HR0.out x10_1 p303 q303
         have hw303_6 := hx303_6
         have hw303_5 := hx303_5
         have hw303_4 := hx303_4
         have hw303_3 := hx303_3
         have hw303_2 := hx303_2
         have hw303_1 := hx303_1
         have hw303_0 := hx303_0
         cases e303
         replace hx303_0 := hbC HB hx303_0
         replace hx303_1 := hbC HB hx303_1
         replace hx303_2 := hbC HB hx303_2
         replace hx303_3 := hbC HB hx303_3
         replace hx303_4 := hbC HB hx303_4
         replace hx303_5 := hbC HB hx303_5
         replace hx303_6 := hbC HB hx303_6
         replace p303 := eq_true p303
         replace q303 := eq_true q303
         refine start_ (n := 6) (S := fun w' => w'.cell? ⟨gb299, 0, none⟩ = some (.int .i64 a2_0) ∧ w'.cell? ⟨gb299, 1, none⟩ = some (.int .i64 a2_1) ∧ w'.cell? ⟨gb299, 2, none⟩ = some (.int .i64 a2_2) ∧ w'.cell? ⟨gb299, 3, none⟩ = some (.int .i64 a2_3) ∧ w'.cell? ⟨gb299, 4, none⟩ = some (.int .i64 a2_4) ∧ w'.cell? ⟨gb299, 5, none⟩ = some (.int .i64 a2_5) ∧ w'.cell? ⟨gb299, 6, none⟩ = some (.int .i64 a2_6) ∧ w'.cell? (ad303.add ((x10_1).toNat * 7)) = some (.int .i64 ((rd_T29 l0 x10_1).f0)) ∧ w'.cell? ⟨(ad303.add ((x10_1).toNat * 7)).block, (ad303.add ((x10_1).toNat * 7)).off + 1, none⟩ = some (.int .i64 ((rd_T29 l0 x10_1).f1)) ∧ w'.cell? ⟨(ad303.add ((x10_1).toNat * 7)).block, (ad303.add ((x10_1).toNat * 7)).off + 2, none⟩ = some (.int .i64 ((rd_T29 l0 x10_1).f2)) ∧ w'.cell? ⟨(ad303.add ((x10_1).toNat * 7)).block, (ad303.add ((x10_1).toNat * 7)).off + 3, none⟩ = some (.int .i64 ((rd_T29 l0 x10_1).f3)) ∧ w'.cell? ⟨(ad303.add ((x10_1).toNat * 7)).block, (ad303.add ((x10_1).toNat * 7)).off + 4, none⟩ = some (.int .i64 ((rd_T29 l0 x10_1).f4)) ∧ w'.cell? ⟨(ad303.add ((x10_1).toNat * 7)).block, (ad303.add ((x10_1).toNat * 7)).off + 5, none⟩ = some (.int .i64 ((rd_T29 l0 x10_1).f5)) ∧ w'.cell? ⟨(ad303.add ((x10_1).toNat * 7)).block, (ad303.add ((x10_1).toNat * 7)).off + 6, none⟩ = some (.int .i64 ((rd_T29 l0 x10_1).f6))) (ds := []) #[false, false, false, false, false, false] (by kernel_rfl) rfl rfl ⟨(blk_cell BK299.out 0).trans rfl, (blk_cell BK299.out 1).trans rfl, (blk_cell BK299.out 2).trans rfl, (blk_cell BK299.out 3).trans rfl, (blk_cell BK299.out 4).trans rfl, (blk_cell BK299.out 5).trans rfl, (blk_cell BK299.out 6).trans rfl, (hbC HB hw303_0), (hbC HB hw303_1), (hbC HB hw303_2), (hbC HB hw303_3), (hbC HB hw303_4), (hbC HB hw303_5), (hbC HB hw303_6)⟩ (fun hHeld => ?_)
         generalize wr.drew = w28 at BK299 HB hx303_0 hx303_1 hx303_2 hx303_3 hx303_4 hx303_5 hx303_6 hHeld ⊢
         refine puA 0 35 (bs 6 1) ?_
         refine puA 1 36 (bs 6 3) ?_
         refine puA 2 37 (bs 6 7) ?_
         refine tkA 3 38 (bs 6 15) hHeld ?_
         refine tkA 4 39 (bs 6 31) hHeld ?_
         refine one_ (i := 5) (N := some 40) (bs 6 63) rfl rfl (by kernel_rfl) (by decide) (fun K hK => ?_)
         refine goes_ Try.func63 (by kernel_rfl) rfl #[.agg #[.int .i64 ((rd_T29 l0 x10_1).f0), .int .i64 ((rd_T29 l0 x10_1).f1), .int .i64 ((rd_T29 l0 x10_1).f2), .int .i64 ((rd_T29 l0 x10_1).f3), .int .i64 ((rd_T29 l0 x10_1).f4), .int .i64 ((rd_T29 l0 x10_1).f5), .int .i64 ((rd_T29 l0 x10_1).f6)], .agg #[.int .i64 a2_0, .int .i64 a2_1, .int .i64 a2_2, .int .i64 a2_3, .int .i64 a2_4, .int .i64 a2_5, .int .i64 a2_6]] (by rfl) rfl rfl (by (try simp only [List.map_toArray, List.map_cons, List.map_nil]); first | done | rfl | (simp only [List.length_drop, List.length_take]; rfl)) ?_
         with_reducible refine (dancestudioref24_Common.calls ((rd_T29 l0 x10_1).f0) ((rd_T29 l0 x10_1).f1) ((rd_T29 l0 x10_1).f2) ((rd_T29 l0 x10_1).f3) ((rd_T29 l0 x10_1).f4) ((rd_T29 l0 x10_1).f5) ((rd_T29 l0 x10_1).f6) a2_0 a2_1 a2_2 a2_3 a2_4 a2_5 a2_6 false _ A24.out).mono ?_
         rintro e w29 ⟨rfl, hb⟩
         refine ⟨_, rfl, ?_⟩
         have n0_ := Aside0.mk (blk_below (bU BK299.out) hb)
         have n1_ := Aside0.mk (below_step (hU HB.out) hb)
         clear BK299
         clear HB
         have BK299 := n0_
         have HB := n1_
         clear n0_ n1_
         (try clear hb)
         (try clear hb2)
         (try clear hk)
         (try clear hi)
         refine hK.out _ _ ⟨(blk_cell BK299.out 0).trans rfl, (blk_cell BK299.out 1).trans rfl, (blk_cell BK299.out 2).trans rfl, (blk_cell BK299.out 3).trans rfl, (blk_cell BK299.out 4).trans rfl, (blk_cell BK299.out 5).trans rfl, (blk_cell BK299.out 6).trans rfl, (hbC HB hw303_0), (hbC HB hw303_1), (hbC HB hw303_2), (hbC HB hw303_3), (hbC HB hw303_4), (hbC HB hw303_5), (hbC HB hw303_6)⟩ (fun hHeld => ?_)
         clear hK K
         refine nmA 40 ?_
         refine done_ (by kernel_rfl) ?_
         try go_wp2
         go_roundg k1
         case measure => have := HK1.out; omega
         case rel => exact ⟨(wrap64 (x10_1 + 1)), (by first | rfl | (simp; done) | (simp [*]; done)), H', ⟨by have := HK1.out; omega⟩, ⟨by (with_reducible repeat (first | refine blk_drewN ?_ _ | refine blk_drew ?_ | refine blk_alloc ?_ _)); exact BK299.out⟩, ⟨hU HB.out⟩⟩
       ·rw [if_neg c23] at H
        exact absurd H (by simp)
      ·rw [if_neg c22] at H
       have c22b0 : decide (x10_1 < (l0.length : Int)) = false := decide_eq_false c22
       clear c22
       by_cases c30 : (l0.length : Int) = 256
       ·rw [if_pos c30] at H
        have c30b0 : ((l0.length : Int) == 256) = true := beq_iff_eq.mpr c30
        have c30b1 : ((l0.length : Int) != 256) = false := bne_eq_false_iff_eq.mpr c30
        clear c30
        simp only [Option.some.injEq, Prod.mk.injEq] at H
        obtain ⟨rfl, rfl⟩ := H
        go_wp2
        go_ret2
        exact ⟨_, by first | rfl | (simp [errW_none, errW_some] <;> rfl) | (simp [*, errW_none, errW_some] <;> rfl), by first | exact Kd.R_nil _ _ _ _ _ | exact Kd.N_nil _ _ _ _ _ | exact Kd.V_nil _ _ _ _ _ | exact Kd.Q_nil _ _ _ _ _ | exact Kd.S_nil _ _ _ _ _, hU HB.out⟩
       ·rw [if_neg c30] at H
        have c30b0 : ((l0.length : Int) == 256) = false := beq_eq_false_iff_ne.mpr c30
        have c30b1 : ((l0.length : Int) != 256) = true := bne_iff_ne.mpr c30
        have H' := Aside0.mk H
        clear H
        go_wp2
        go_loopg [11, 12] k1 (fun kq v11 v12 w' => ∃ (x11_2 : List (S29)) (x12_2 : Int), v12 = .int .i64 x12_2 ∧ Aside0 (dancestudioref24_Put.l1 kq l0 x11_2 x12_2 a2_0 a2_1 a2_2 a2_3 a2_4 a2_5 a2_6 = some (r1, r2)) ∧ Aside0 (kq ≤ k1) ∧ Aside0 (Kd.R k29 29 w' w.heap.size (fun k_ => k_ ≠ gb299) v11 x11_2) ∧ Aside0 (w'.heap[gb299]? = some (.cells #[.int .i64 a2_0, .int .i64 a2_1, .int .i64 a2_2, .int .i64 a2_3, .int .i64 a2_4, .int .i64 a2_5, .int .i64 a2_6] 29 (0, 0))) ∧ Aside0 (Below w.heap.size w w'))
        case atStart => exact ⟨(([] : List (S29))), (0), (by first | rfl | (simp; done) | (simp [*]; done)), H', ⟨Nat.le_refl _⟩, ⟨by first | exact Kd.R_nil _ _ _ _ _ | exact Kd.N_nil _ _ _ _ _ | exact Kd.V_nil _ _ _ _ _ | exact Kd.Q_nil _ _ _ _ _ | exact Kd.S_nil _ _ _ _ _⟩, ⟨by (with_reducible repeat (first | refine blk_drewN ?_ _ | refine blk_drew ?_ | refine blk_alloc ?_ _)); exact BK299.out⟩, ⟨hU HB.out⟩⟩
        case round =>
         clear H'
         try clear c2
         try clear p2
         try clear c3
         try clear p3
         try clear q3
         try clear hx3
         try clear c5
         try clear c5b0
         try clear c5b1
         try clear c6
         try clear p6
         try clear c7
         try clear c7b0
         try clear c7b1
         try clear c9
         try clear c9b0
         try clear c21
         try clear c22
         try clear c22b0
         try clear c23
         try clear c23b0
         try clear c24
         try clear c25
         try clear c30
         try clear c30b0
         try clear c30b1
         try clear p30
         try clear q30
         try clear hx30
         try clear hcz12_0
         try clear hcz12_1
         try clear hcz12_2
         try clear hcz12_3
         try clear hcz12_4
         try clear hcz12_5
         try clear hcz12_6
         try clear hcz14_0
         try clear hcz14_1
         try clear hcz14_2
         try clear hcz14_3
         try clear hcz14_4
         try clear hcz14_5
         try clear hcz14_6
         try clear hcz18_0
         try clear hcz18_1
         try clear hcz18_2
         try clear hcz18_3
         try clear hcz18_4
         try clear hcz18_5
         try clear hcz18_6
         try clear hcz20_0
         try clear hcz20_1
         try clear hcz20_2
         try clear hcz20_3
         try clear hcz20_4
         try clear hcz20_5
         try clear hcz20_6
         try clear hfz12_0
         try clear hfz12_1
         try clear hfz12_2
         try clear hfz12_3
         try clear hfz12_4
         try clear hfz12_5
         try clear hfz12_6
         try clear hfz14_0
         try clear hfz14_1
         try clear hfz14_2
         try clear hfz14_3
         try clear hfz14_4
         try clear hfz14_5
         try clear hfz14_6
         try clear hfz18_0
         try clear hfz18_1
         try clear hfz18_2
         try clear hfz18_3
         try clear hfz18_4
         try clear hfz18_5
         try clear hfz18_6
         try clear hfz20_0
         try clear hfz20_1
         try clear hfz20_2
         try clear hfz20_3
         try clear hfz20_4
         try clear hfz20_5
         try clear hfz20_6
         try clear hx303_0
         try clear hx303_1
         try clear hx303_2
         try clear hx303_3
         try clear hx303_4
         try clear hx303_5
         try clear hx303_6
         try clear p2
         try clear p303
         try clear q303
         obtain ⟨x11_2, x12_2, rfl, HA, HK2, HO_11, BK299, HB⟩ := hrel
         cases gk with
         | zero => exact absurd HA.out (by simp [dancestudioref24_Put.l1])
         | succ k2 =>
          have H := HA.out
          clear HA
          simp only [dancestudioref24_Put.l1] at H
          by_cases c31 : x12_2 < (l0.length : Int)
          ·rw [if_pos c31] at H
           have c31b0 : decide (x12_2 < (l0.length : Int)) = true := decide_eq_true c31
           clear c31
           by_cases c32 : 0 ≤ x12_2
           ·rw [if_pos c32] at H
            have c32b0 : decide (0 ≤ x12_2) = true := decide_eq_true c32
            clear c32
            replace H := Option.bind_eq_some_iff.mp H
            obtain ⟨t306, A330, H⟩ := H
            try dsimp only at H
            have A33 := Aside0.mk A330
            clear A330
            by_cases c34 : t306 = true
            ·subst c34
             rw [if_pos rfl] at H
             by_cases c35 : x11_2.length < 2513169434916
             ·rw [if_pos c35] at H
              have LMc35 := Aside0.mk c35
              clear c35
              obtain ⟨y308, hy308⟩ : ∃ y_ : List (S29), y_ = (x11_2 ++ [(⟨(rd_T29 l0 x12_2).f0, (rd_T29 l0 x12_2).f1, (rd_T29 l0 x12_2).f2, (rd_T29 l0 x12_2).f3, (rd_T29 l0 x12_2).f4, (rd_T29 l0 x12_2).f5, (rd_T29 l0 x12_2).f6⟩ : S29)]) := ⟨_, rfl⟩
              replace H : (dancestudioref24_Put.l1 k2 l0 y308 (wrap64 (x12_2 + 1)) a2_0 a2_1 a2_2 a2_3 a2_4 a2_5 a2_6) = some (r1, r2) := by first | (rw [hy308]; with_reducible exact H) | (have H2_ := (Option.bind_some _ _).symm.trans H; rw [hy308]; with_reducible exact H2_) | (have H2_ := (Option.bind_some _ _).symm.trans H; with_reducible exact H2_) | with_reducible exact H | (rw [hy308]; exact H) | exact H
              have Ny308 := Aside0.mk hy308
              clear hy308
              have H' := Aside0.mk H
              clear H
              try go_wp2
              have n0_ := Aside0.mk (Kd.R_drew HO_11.out)
              have n1_ := Aside0.mk (blk_drew BK299.out)
              have n2_ := Aside0.mk (below_drew1 HB.out)
              clear HO_11
              clear BK299
              clear HB
              have HO_11 := n0_
              have BK299 := n1_
              have HB := n2_
              clear n0_ n1_ n2_
              have p305 : 0 ≤ (x12_2 : Int) := of_decide_eq_true (by first | (with_reducible assumption) | assumption)
              have q305 : x12_2 < (l0.length : Int) := of_decide_eq_true (by first | (with_reducible assumption) | assumption)
              obtain ⟨ad305, e305, hx305_0, hx305_1, hx305_2, hx305_3, hx305_4, hx305_5, hx305_6⟩ := at_T29 HR0.out x12_2 p305 q305
              have hw305_6 := hx305_6
              have hw305_5 := hx305_5
              have hw305_4 := hx305_4
              have hw305_3 := hx305_3
              have hw305_2 := hx305_2
              have hw305_1 := hx305_1
              have hw305_0 := hx305_0
              cases e305
              replace hx305_0 := hbC HB hx305_0
              replace hx305_1 := hbC HB hx305_1
              replace hx305_2 := hbC HB hx305_2
              replace hx305_3 := hbC HB hx305_3
              replace hx305_4 := hbC HB hx305_4
              replace hx305_5 := hbC HB hx305_5
              replace hx305_6 := hbC HB hx305_6
              replace p305 := eq_true p305
              replace q305 := eq_true q305
              refine start_ (n := 6) (S := fun w' => w'.cell? ⟨gb299, 0, none⟩ = some (.int .i64 a2_0) ∧ w'.cell? ⟨gb299, 1, none⟩ = some (.int .i64 a2_1) ∧ w'.cell? ⟨gb299, 2, none⟩ = some (.int .i64 a2_2) ∧ w'.cell? ⟨gb299, 3, none⟩ = some (.int .i64 a2_3) ∧ w'.cell? ⟨gb299, 4, none⟩ = some (.int .i64 a2_4) ∧ w'.cell? ⟨gb299, 5, none⟩ = some (.int .i64 a2_5) ∧ w'.cell? ⟨gb299, 6, none⟩ = some (.int .i64 a2_6) ∧ w'.cell? (ad305.add ((x12_2).toNat * 7)) = some (.int .i64 ((rd_T29 l0 x12_2).f0)) ∧ w'.cell? ⟨(ad305.add ((x12_2).toNat * 7)).block, (ad305.add ((x12_2).toNat * 7)).off + 1, none⟩ = some (.int .i64 ((rd_T29 l0 x12_2).f1)) ∧ w'.cell? ⟨(ad305.add ((x12_2).toNat * 7)).block, (ad305.add ((x12_2).toNat * 7)).off + 2, none⟩ = some (.int .i64 ((rd_T29 l0 x12_2).f2)) ∧ w'.cell? ⟨(ad305.add ((x12_2).toNat * 7)).block, (ad305.add ((x12_2).toNat * 7)).off + 3, none⟩ = some (.int .i64 ((rd_T29 l0 x12_2).f3)) ∧ w'.cell? ⟨(ad305.add ((x12_2).toNat * 7)).block, (ad305.add ((x12_2).toNat * 7)).off + 4, none⟩ = some (.int .i64 ((rd_T29 l0 x12_2).f4)) ∧ w'.cell? ⟨(ad305.add ((x12_2).toNat * 7)).block, (ad305.add ((x12_2).toNat * 7)).off + 5, none⟩ = some (.int .i64 ((rd_T29 l0 x12_2).f5)) ∧ w'.cell? ⟨(ad305.add ((x12_2).toNat * 7)).block, (ad305.add ((x12_2).toNat * 7)).off + 6, none⟩ = some (.int .i64 ((rd_T29 l0 x12_2).f6))) (ds := []) #[false, false, false, false, false, false] (by kernel_rfl) rfl rfl ⟨(blk_cell BK299.out 0).trans rfl, (blk_cell BK299.out 1).trans rfl, (blk_cell BK299.out 2).trans rfl, (blk_cell BK299.out 3).trans rfl, (blk_cell BK299.out 4).trans rfl, (blk_cell BK299.out 5).trans rfl, (blk_cell BK299.out 6).trans rfl, (hbC HB hw305_0), (hbC HB hw305_1), (hbC HB hw305_2), (hbC HB hw305_3), (hbC HB hw305_4), (hbC HB hw305_5), (hbC HB hw305_6)⟩ (fun hHeld => ?_)
              generalize wr.drew = w36 at HO_11 BK299 HB hx305_0 hx305_1 hx305_2 hx305_3 hx305_4 hx305_5 hx305_6 hHeld ⊢
              refine puA 0 50 (bs 6 1) ?_
              refine puA 1 51 (bs 6 3) ?_
              refine puA 2 52 (bs 6 7) ?_
              refine tkA 3 53 (bs 6 15) hHeld ?_
              refine tkA 4 54 (bs 6 31) hHeld ?_
              refine one_ (i := 5) (N := some 55) (bs 6 63) rfl rfl (by kernel_rfl) (by decide) (fun K hK => ?_)
              refine goes_ Try.func56 (by kernel_rfl) rfl #[.agg #[.int .i64 ((rd_T29 l0 x12_2).f0), .int .i64 ((rd_T29 l0 x12_2).f1), .int .i64 ((rd_T29 l0 x12_2).f2), .int .i64 ((rd_T29 l0 x12_2).f3), .int .i64 ((rd_T29 l0 x12_2).f4), .int .i64 ((rd_T29 l0 x12_2).f5), .int .i64 ((rd_T29 l0 x12_2).f6)], .agg #[.int .i64 a2_0, .int .i64 a2_1, .int .i64 a2_2, .int .i64 a2_3, .int .i64 a2_4, .int .i64 a2_5, .int .i64 a2_6]] (by rfl) rfl rfl (by (try simp only [List.map_toArray, List.map_cons, List.map_nil]); first | done | rfl | (simp only [List.length_drop, List.length_take]; rfl)) ?_
              with_reducible refine (dancestudioref23_Less.calls ((rd_T29 l0 x12_2).f0) ((rd_T29 l0 x12_2).f1) ((rd_T29 l0 x12_2).f2) ((rd_T29 l0 x12_2).f3) ((rd_T29 l0 x12_2).f4) ((rd_T29 l0 x12_2).f5) ((rd_T29 l0 x12_2).f6) a2_0 a2_1 a2_2 a2_3 a2_4 a2_5 a2_6 true _ A33.out).mono ?_
              rintro e w37 ⟨rfl, hb⟩
              refine ⟨_, rfl, ?_⟩
              have n0_ := Aside0.mk (Kd.R_below (Kd.rU HO_11.out) hb)
              have n1_ := Aside0.mk (blk_below (bU BK299.out) hb)
              have n2_ := Aside0.mk (below_step (hU HB.out) hb)
              clear HO_11
              clear BK299
              clear HB
              have HO_11 := n0_
              have BK299 := n1_
              have HB := n2_
              clear n0_ n1_ n2_
              (try clear hb)
              (try clear hb2)
              (try clear hk)
              (try clear hi)
              refine hK.out _ _ ⟨(blk_cell BK299.out 0).trans rfl, (blk_cell BK299.out 1).trans rfl, (blk_cell BK299.out 2).trans rfl, (blk_cell BK299.out 3).trans rfl, (blk_cell BK299.out 4).trans rfl, (blk_cell BK299.out 5).trans rfl, (blk_cell BK299.out 6).trans rfl, (hbC HB hw305_0), (hbC HB hw305_1), (hbC HB hw305_2), (hbC HB hw305_3), (hbC HB hw305_4), (hbC HB hw305_5), (hbC HB hw305_6)⟩ (fun hHeld => ?_)
              clear hK K
              refine nmA 55 ?_
              refine done_ (by kernel_rfl) ?_
              have p307 : 0 ≤ (x12_2 : Int) := of_decide_eq_true (by first | (with_reducible assumption) | assumption)
              have q307 : x12_2 < (l0.length : Int) := of_decide_eq_true (by first | (with_reducible assumption) | assumption)
              obtain ⟨ad307, e307, hx307_0, hx307_1, hx307_2, hx307_3, hx307_4, hx307_5, hx307_6⟩ := at_T29 HR0.out x12_2 p307 q307
              obtain rfl : ad305 = ad307 := (by injection e307)
              replace hx307_0 := hbC HB hx307_0
              replace hx307_1 := hbC HB hx307_1
              replace hx307_2 := hbC HB hx307_2
              replace hx307_3 := hbC HB hx307_3
              replace hx307_4 := hbC HB hx307_4
              replace hx307_5 := hbC HB hx307_5
              replace hx307_6 := hbC HB hx307_6
              replace p307 := eq_true p307
              replace q307 := eq_true q307
              try go_wp2_with (first | ((with_reducible refine gate_builtin (b := .append) (xs := #[.tmp 56, .tmp 61]) rfl ?_); at_builtin; refine Kd.R_append k29 (w0 := w) w.heap.size rfl (.tmp 56) (.tmp 61) 22 29 (.agg #[(.int .i64 0), (.int .i64 0), (.int .i64 0), (.int .i64 0), (.int .i64 0), (.int .i64 0), (.int .i64 0)]) 56 rfl Try.underlying22 info29 rfl (by decide) (by omega) u11 x11_2 (⟨(rd_T29 l0 x12_2).f0, (rd_T29 l0 x12_2).f1, (rd_T29 l0 x12_2).f2, (rd_T29 l0 x12_2).f3, (rd_T29 l0 x12_2).f4, (rd_T29 l0 x12_2).f5, (rd_T29 l0 x12_2).f6⟩ : S29) [.int .i64 ((rd_T29 l0 x12_2).f0), .int .i64 ((rd_T29 l0 x12_2).f1), .int .i64 ((rd_T29 l0 x12_2).f2), .int .i64 ((rd_T29 l0 x12_2).f3), .int .i64 ((rd_T29 l0 x12_2).f4), .int .i64 ((rd_T29 l0 x12_2).f5), .int .i64 ((rd_T29 l0 x12_2).f6)] (fun k_ => k_ ≠ gb299) (fun _ => False) rfl rfl ?aP (fun _ hk => hk.elim) ?aF ?aO ?aB ?aS ?aL ?_; (case aP => exact k29_mkM _ _ _ (⟨(rd_T29 l0 x12_2).f0, (rd_T29 l0 x12_2).f1, (rd_T29 l0 x12_2).f2, (rd_T29 l0 x12_2).f3, (rd_T29 l0 x12_2).f4, (rd_T29 l0 x12_2).f5, (rd_T29 l0 x12_2).f6⟩ : S29)); (case aB => exact (hU HB.out)); (case aF => exact (fun k_ hk => Kd.freshB (bU BK299.out) k_ hk)); (case aO => exact (Kd.rU HO_11.out)); (case aS => exact (below_size (hU HB.out))); (case aL => have := LMc35.out; omega); intro v309 w38 ho hb hg hat; rw [← Ny308.out] at ho; have n0_ := Aside0.mk (blk_grown (bU BK299.out) hg (Kd.R_away HO_11.out (fun _ hk => hk))); have n1_ := Aside0.mk (hb); have n2_ := Aside0.mk (ho); clear BK299; clear HB; clear HO_11; have BK299 := n0_; have HB := n1_; have HO310 := n2_; clear n0_ n1_ n2_; clear ho hb hg hat))
              go_roundg k2
              case measure => have := HK1.out; have := HK2.out; omega
              case rel => exact ⟨(y308), (wrap64 (x12_2 + 1)), (by first | rfl | (simp; done) | (simp [*]; done)), H', ⟨by have := HK1.out; have := HK2.out; omega⟩, ⟨by (with_reducible repeat (first | apply Kd.R_alloc | apply Kd.R_drewN | apply Kd.R_drew)); exact HO310.out⟩, ⟨by (with_reducible repeat (first | refine blk_drewN ?_ _ | refine blk_drew ?_ | refine blk_alloc ?_ _)); exact BK299.out⟩, ⟨hU HB.out⟩⟩
             ·rw [if_neg c35] at H
              exact absurd H (by simp)
            ·replace c34 := Bool.eq_false_iff.mpr c34
             subst c34
             have H1 : (dancestudioref24_Put.l1 k2 l0 x11_2 (wrap64 (x12_2 + 1)) a2_0 a2_1 a2_2 a2_3 a2_4 a2_5 a2_6) = some (r1, r2) := by rw [if_neg (show ¬ (false = true) by decide)] at H; exact H
             clear H
             have H := H1
             clear H1
             have H' := Aside0.mk H
             clear H
             try go_wp2
             have n0_ := Aside0.mk (Kd.R_drew HO_11.out)
             have n1_ := Aside0.mk (blk_drew BK299.out)
             have n2_ := Aside0.mk (below_drew1 HB.out)
             clear HO_11
             clear BK299
             clear HB
             have HO_11 := n0_
             have BK299 := n1_
             have HB := n2_
             clear n0_ n1_ n2_
             have p305 : 0 ≤ (x12_2 : Int) := of_decide_eq_true (by first | (with_reducible assumption) | assumption)
             have q305 : x12_2 < (l0.length : Int) := of_decide_eq_true (by first | (with_reducible assumption) | assumption)
             obtain ⟨ad305, e305, hx305_0, hx305_1, hx305_2, hx305_3, hx305_4, hx305_5, hx305_6⟩ := at_T29 HR0.out x12_2 p305 q305
             have hw305_6 := hx305_6
             have hw305_5 := hx305_5
             have hw305_4 := hx305_4
             have hw305_3 := hx305_3
             have hw305_2 := hx305_2
             have hw305_1 := hx305_1
             have hw305_0 := hx305_0
             cases e305
             replace hx305_0 := hbC HB hx305_0
             replace hx305_1 := hbC HB hx305_1
             replace hx305_2 := hbC HB hx305_2
             replace hx305_3 := hbC HB hx305_3
             replace hx305_4 := hbC HB hx305_4
             replace hx305_5 := hbC HB hx305_5
             replace hx305_6 := hbC HB hx305_6
             replace p305 := eq_true p305
             replace q305 := eq_true q305
             refine start_ (n := 6) (S := fun w' => w'.cell? ⟨gb299, 0, none⟩ = some (.int .i64 a2_0) ∧ w'.cell? ⟨gb299, 1, none⟩ = some (.int .i64 a2_1) ∧ w'.cell? ⟨gb299, 2, none⟩ = some (.int .i64 a2_2) ∧ w'.cell? ⟨gb299, 3, none⟩ = some (.int .i64 a2_3) ∧ w'.cell? ⟨gb299, 4, none⟩ = some (.int .i64 a2_4) ∧ w'.cell? ⟨gb299, 5, none⟩ = some (.int .i64 a2_5) ∧ w'.cell? ⟨gb299, 6, none⟩ = some (.int .i64 a2_6) ∧ w'.cell? (ad305.add ((x12_2).toNat * 7)) = some (.int .i64 ((rd_T29 l0 x12_2).f0)) ∧ w'.cell? ⟨(ad305.add ((x12_2).toNat * 7)).block, (ad305.add ((x12_2).toNat * 7)).off + 1, none⟩ = some (.int .i64 ((rd_T29 l0 x12_2).f1)) ∧ w'.cell? ⟨(ad305.add ((x12_2).toNat * 7)).block, (ad305.add ((x12_2).toNat * 7)).off + 2, none⟩ = some (.int .i64 ((rd_T29 l0 x12_2).f2)) ∧ w'.cell? ⟨(ad305.add ((x12_2).toNat * 7)).block, (ad305.add ((x12_2).toNat * 7)).off + 3, none⟩ = some (.int .i64 ((rd_T29 l0 x12_2).f3)) ∧ w'.cell? ⟨(ad305.add ((x12_2).toNat * 7)).block, (ad305.add ((x12_2).toNat * 7)).off + 4, none⟩ = some (.int .i64 ((rd_T29 l0 x12_2).f4)) ∧ w'.cell? ⟨(ad305.add ((x12_2).toNat * 7)).block, (ad305.add ((x12_2).toNat * 7)).off + 5, none⟩ = some (.int .i64 ((rd_T29 l0 x12_2).f5)) ∧ w'.cell? ⟨(ad305.add ((x12_2).toNat * 7)).block, (ad305.add ((x12_2).toNat * 7)).off + 6, none⟩ = some (.int .i64 ((rd_T29 l0 x12_2).f6))) (ds := []) #[false, false, false, false, false, false] (by kernel_rfl) rfl rfl ⟨(blk_cell BK299.out 0).trans rfl, (blk_cell BK299.out 1).trans rfl, (blk_cell BK299.out 2).trans rfl, (blk_cell BK299.out 3).trans rfl, (blk_cell BK299.out 4).trans rfl, (blk_cell BK299.out 5).trans rfl, (blk_cell BK299.out 6).trans rfl, (hbC HB hw305_0), (hbC HB hw305_1), (hbC HB hw305_2), (hbC HB hw305_3), (hbC HB hw305_4), (hbC HB hw305_5), (hbC HB hw305_6)⟩ (fun hHeld => ?_)
             generalize wr.drew = w39 at HO_11 BK299 HB hx305_0 hx305_1 hx305_2 hx305_3 hx305_4 hx305_5 hx305_6 hHeld ⊢
             refine puA 0 50 (bs 6 1) ?_
             refine puA 1 51 (bs 6 3) ?_
             refine puA 2 52 (bs 6 7) ?_
             refine tkA 3 53 (bs 6 15) hHeld ?_
             refine tkA 4 54 (bs 6 31) hHeld ?_
             refine one_ (i := 5) (N := some 55) (bs 6 63) rfl rfl (by kernel_rfl) (by decide) (fun K hK => ?_)
             refine goes_ Try.func56 (by kernel_rfl) rfl #[.agg #[.int .i64 ((rd_T29 l0 x12_2).f0), .int .i64 ((rd_T29 l0 x12_2).f1), .int .i64 ((rd_T29 l0 x12_2).f2), .int .i64 ((rd_T29 l0 x12_2).f3), .int .i64 ((rd_T29 l0 x12_2).f4), .int .i64 ((rd_T29 l0 x12_2).f5), .int .i64 ((rd_T29 l0 x12_2).f6)], .agg #[.int .i64 a2_0, .int .i64 a2_1, .int .i64 a2_2, .int .i64 a2_3, .int .i64 a2_4, .int .i64 a2_5, .int .i64 a2_6]] (by rfl) rfl rfl (by (try simp only [List.map_toArray, List.map_cons, List.map_nil]); first | done | rfl | (simp only [List.length_drop, List.length_take]; rfl)) ?_
             with_reducible refine (dancestudioref23_Less.calls ((rd_T29 l0 x12_2).f0) ((rd_T29 l0 x12_2).f1) ((rd_T29 l0 x12_2).f2) ((rd_T29 l0 x12_2).f3) ((rd_T29 l0 x12_2).f4) ((rd_T29 l0 x12_2).f5) ((rd_T29 l0 x12_2).f6) a2_0 a2_1 a2_2 a2_3 a2_4 a2_5 a2_6 false _ A33.out).mono ?_
             rintro e w40 ⟨rfl, hb⟩
             refine ⟨_, rfl, ?_⟩
             have n0_ := Aside0.mk (Kd.R_below (Kd.rU HO_11.out) hb)
             have n1_ := Aside0.mk (blk_below (bU BK299.out) hb)
             have n2_ := Aside0.mk (below_step (hU HB.out) hb)
             clear HO_11
             clear BK299
             clear HB
             have HO_11 := n0_
             have BK299 := n1_
             have HB := n2_
             clear n0_ n1_ n2_
             (try clear hb)
             (try clear hb2)
             (try clear hk)
             (try clear hi)
             refine hK.out _ _ ⟨(blk_cell BK299.out 0).trans rfl, (blk_cell BK299.out 1).trans rfl, (blk_cell BK299.out 2).trans rfl, (blk_cell BK299.out 3).trans rfl, (blk_cell BK299.out 4).trans rfl, (blk_cell BK299.out 5).trans rfl, (blk_cell BK299.out 6).trans rfl, (hbC HB hw305_0), (hbC HB hw305_1), (hbC HB hw305_2), (hbC HB hw305_3), (hbC HB hw305_4), (hbC HB hw305_5), (hbC HB hw305_6)⟩ (fun hHeld => ?_)
             clear hK K
             refine nmA 55 ?_
             refine done_ (by kernel_rfl) ?_
             try go_wp2
             go_roundg k2
             case measure => have := HK1.out; have := HK2.out; omega
             case rel => exact ⟨(x11_2), (wrap64 (x12_2 + 1)), (by first | rfl | (simp; done) | (simp [*]; done)), H', ⟨by have := HK1.out; have := HK2.out; omega⟩, ⟨by (with_reducible repeat (first | apply Kd.R_alloc | apply Kd.R_drewN | apply Kd.R_drew)); exact HO_11.out⟩, ⟨by (with_reducible repeat (first | refine blk_drewN ?_ _ | refine blk_drew ?_ | refine blk_alloc ?_ _)); exact BK299.out⟩, ⟨hU HB.out⟩⟩
           ·rw [if_neg c32] at H
            exact absurd H (by simp)
          ·rw [if_neg c31] at H
           have c31b0 : decide (x12_2 < (l0.length : Int)) = false := decide_eq_false c31
           clear c31
           by_cases c41 : x11_2.length < 2513169434916
           ·rw [if_pos c41] at H
            have LMc41 := Aside0.mk c41
            clear c41
            obtain ⟨y311, hy311⟩ : ∃ y_ : List (S29), y_ = (x11_2 ++ [(⟨a2_0, a2_1, a2_2, a2_3, a2_4, a2_5, a2_6⟩ : S29)]) := ⟨_, rfl⟩
            replace H : (dancestudioref24_Put.l2 k2 l0 y311 0 a2_0 a2_1 a2_2 a2_3 a2_4 a2_5 a2_6) = some (r1, r2) := by first | (rw [hy311]; with_reducible exact H) | (have H2_ := (Option.bind_some _ _).symm.trans H; rw [hy311]; with_reducible exact H2_) | (have H2_ := (Option.bind_some _ _).symm.trans H; with_reducible exact H2_) | with_reducible exact H | (rw [hy311]; exact H) | exact H
            have Ny311 := Aside0.mk hy311
            clear hy311
            have H' := Aside0.mk H
            clear H
            have hcz42_0 := blk_cell BK299.out
            have hfz42_0 := blk_frozen BK299.out
            go_wp2_with (first | ((with_reducible refine gate_builtin (b := .append) (xs := #[.tmp 63, .tmp 65]) rfl ?_); at_builtin; refine Kd.R_append k29 (w0 := w) w.heap.size rfl (.tmp 63) (.tmp 65) 22 29 (.agg #[(.int .i64 0), (.int .i64 0), (.int .i64 0), (.int .i64 0), (.int .i64 0), (.int .i64 0), (.int .i64 0)]) 56 rfl Try.underlying22 info29 rfl (by decide) (by omega) u11 x11_2 (⟨a2_0, a2_1, a2_2, a2_3, a2_4, a2_5, a2_6⟩ : S29) [.int .i64 a2_0, .int .i64 a2_1, .int .i64 a2_2, .int .i64 a2_3, .int .i64 a2_4, .int .i64 a2_5, .int .i64 a2_6] (fun k_ => k_ ≠ gb299) (fun _ => False) rfl rfl ?aP (fun _ hk => hk.elim) ?aF ?aO ?aB ?aS ?aL ?_; (case aP => exact k29_mkM _ _ _ (⟨a2_0, a2_1, a2_2, a2_3, a2_4, a2_5, a2_6⟩ : S29)); (case aB => exact (hU HB.out)); (case aF => exact (fun k_ hk => Kd.freshB (bU BK299.out) k_ hk)); (case aO => exact (Kd.rU HO_11.out)); (case aS => exact (below_size (hU HB.out))); (case aL => have := LMc41.out; omega); intro v312 w43 ho hb hg hat; rw [← Ny311.out] at ho; have n0_ := Aside0.mk (blk_grown (bU BK299.out) hg (Kd.R_away HO_11.out (fun _ hk => hk))); have n1_ := Aside0.mk (hb); have n2_ := Aside0.mk (ho); clear BK299; clear HB; clear HO_11; have BK299 := n0_; have HB := n1_; have HO313 := n2_; clear n0_ n1_ n2_; clear ho hb hg hat))
            go_loopg [11, 13] k2 (fun kq v11 v13 w' => ∃ (x11_3 : List (S29)) (x13_3 : Int), v13 = .int .i64 x13_3 ∧ Aside0 (dancestudioref24_Put.l2 kq l0 x11_3 x13_3 a2_0 a2_1 a2_2 a2_3 a2_4 a2_5 a2_6 = some (r1, r2)) ∧ Aside0 (kq ≤ k2) ∧ Aside0 (Kd.R k29 29 w' w.heap.size (fun k_ => k_ ≠ gb299) v11 x11_3) ∧ Aside0 (w'.heap[gb299]? = some (.cells #[.int .i64 a2_0, .int .i64 a2_1, .int .i64 a2_2, .int .i64 a2_3, .int .i64 a2_4, .int .i64 a2_5, .int .i64 a2_6] 29 (0, 0))) ∧ Aside0 (Below w.heap.size w w'))
            case atStart => exact ⟨(y311), (0), (by first | rfl | (simp; done) | (simp [*]; done)), H', ⟨Nat.le_refl _⟩, ⟨by (with_reducible repeat (first | apply Kd.R_alloc | apply Kd.R_drewN | apply Kd.R_drew)); exact HO313.out⟩, ⟨by (with_reducible repeat (first | refine blk_drewN ?_ _ | refine blk_drew ?_ | refine blk_alloc ?_ _)); exact BK299.out⟩, ⟨hU HB.out⟩⟩
            case round =>
             clear H'
             try clear c2
             try clear p2
             try clear c3
             try clear p3
             try clear q3
             try clear hx3
             try clear c4
             try clear c5
             try clear c5b0
             try clear c5b1
             try clear c6
             try clear p6
             try clear c7
             try clear c7b0
             try clear c7b1
             try clear c9
             try clear c9b0
             try clear c21
             try clear c22
             try clear c22b0
             try clear c23
             try clear c23b0
             try clear c24
             try clear c25
             try clear c30
             try clear c30b0
             try clear c30b1
             try clear p30
             try clear q30
             try clear hx30
             try clear c31
             try clear c31b0
             try clear c32
             try clear c32b0
             try clear c34
             try clear c35
             try clear c41
             try clear hcz12_0
             try clear hcz12_1
             try clear hcz12_2
             try clear hcz12_3
             try clear hcz12_4
             try clear hcz12_5
             try clear hcz12_6
             try clear hcz14_0
             try clear hcz14_1
             try clear hcz14_2
             try clear hcz14_3
             try clear hcz14_4
             try clear hcz14_5
             try clear hcz14_6
             try clear hcz18_0
             try clear hcz18_1
             try clear hcz18_2
             try clear hcz18_3
             try clear hcz18_4
             try clear hcz18_5
             try clear hcz18_6
             try clear hcz20_0
             try clear hcz20_1
             try clear hcz20_2
             try clear hcz20_3
             try clear hcz20_4
             try clear hcz20_5
             try clear hcz20_6
             try clear hcz42_0
             try clear hcz42_1
             try clear hcz42_2
             try clear hcz42_3
             try clear hcz42_4
             try clear hcz42_5
             try clear hcz42_6
             try clear hfz12_0
             try clear hfz12_1
             try clear hfz12_2
             try clear hfz12_3
             try clear hfz12_4
             try clear hfz12_5
             try clear hfz12_6
             try clear hfz14_0
             try clear hfz14_1
             try clear hfz14_2
             try clear hfz14_3
             try clear hfz14_4
             try clear hfz14_5
             try clear hfz14_6
             try clear hfz18_0
             try clear hfz18_1
             try clear hfz18_2
             try clear hfz18_3
             try clear hfz18_4
             try clear hfz18_5
             try clear hfz18_6
             try clear hfz20_0
             try clear hfz20_1
             try clear hfz20_2
             try clear hfz20_3
             try clear hfz20_4
             try clear hfz20_5
             try clear hfz20_6
             try clear hfz42_0
             try clear hfz42_1
             try clear hfz42_2
             try clear hfz42_3
             try clear hfz42_4
             try clear hfz42_5
             try clear hfz42_6
             try clear hx303_0
             try clear hx303_1
             try clear hx303_2
             try clear hx303_3
             try clear hx303_4
             try clear hx303_5
             try clear hx303_6
             try clear hx305_0
             try clear hx305_1
             try clear hx305_2
             try clear hx305_3
             try clear hx305_4
             try clear hx305_5
             try clear hx305_6
             try clear hx307_0
             try clear hx307_1
             try clear hx307_2
             try clear hx307_3
             try clear hx307_4
             try clear hx307_5
             try clear hx307_6
             try clear p2
             try clear p3
             try clear p30
             try clear p303
             try clear p305
             try clear p307
             try clear p6
             try clear q3
             try clear q30
             try clear q303
             try clear q305
             try clear q307
             obtain ⟨x11_3, x13_3, rfl, HA, HK3, HO_11, BK299, HB⟩ := hrel
             cases gk with
             | zero => exact absurd HA.out (by simp [dancestudioref24_Put.l2])
             | succ k3 =>
              have H := HA.out
              clear HA
              simp only [dancestudioref24_Put.l2] at H
              by_cases c44 : x13_3 < (l0.length : Int)
              ·rw [if_pos c44] at H
               have c44b0 : decide (x13_3 < (l0.length : Int)) = true := decide_eq_true c44
               clear c44
               by_cases c45 : 0 ≤ x13_3
               ·rw [if_pos c45] at H
                have c45b0 : decide (0 ≤ x13_3) = true := decide_eq_true c45
                clear c45
                replace H := Option.bind_eq_some_iff.mp H
                obtain ⟨t315, A460, H⟩ := H
                try dsimp only at H
                have A46 := Aside0.mk A460
                clear A460
                by_cases c47 : t315 = true
                ·subst c47
                 have H1 : (dancestudioref24_Put.l2 k3 l0 x11_3 (wrap64 (x13_3 + 1)) a2_0 a2_1 a2_2 a2_3 a2_4 a2_5 a2_6) = some (r1, r2) := by rw [if_pos rfl] at H; exact H
                 clear H
                 have H := H1
                 clear H1
                 have H' := Aside0.mk H
                 clear H
                 try go_wp2
                 have n0_ := Aside0.mk (Kd.R_drew HO_11.out)
                 have n1_ := Aside0.mk (blk_drew BK299.out)
                 have n2_ := Aside0.mk (below_drew1 HB.out)
                 clear HO_11
                 clear BK299
                 clear HB
                 have HO_11 := n0_
                 have BK299 := n1_
                 have HB := n2_
                 clear n0_ n1_ n2_
                 have p314 : 0 ≤ (x13_3 : Int) := of_decide_eq_true (by first | (with_reducible assumption) | assumption)
                 have q314 : x13_3 < (l0.length : Int) := of_decide_eq_true (by first | (with_reducible assumption) | assumption)
                 obtain ⟨ad314, e314, hx314_0, hx314_1, hx314_2, hx314_3, hx314_4, hx314_5, hx314_6⟩ := at_T29 HR0.out x13_3 p314 q314
                 have hw314_6 := hx314_6
                 have hw314_5 := hx314_5
                 have hw314_4 := hx314_4
                 have hw314_3 := hx314_3
                 have hw314_2 := hx314_2
                 have hw314_1 := hx314_1
                 have hw314_0 := hx314_0
                 cases e314
                 replace hx314_0 := hbC HB hx314_0
                 replace hx314_1 := hbC HB hx314_1
                 replace hx314_2 := hbC HB hx314_2
                 replace hx314_3 := hbC HB hx314_3
                 replace hx314_4 := hbC HB hx314_4
                 replace hx314_5 := hbC HB hx314_5
                 replace hx314_6 := hbC HB hx314_6
                 replace p314 := eq_true p314
                 replace q314 := eq_true q314
                 refine start_ (n := 7) (S := fun w' => w'.cell? ⟨gb299, 0, none⟩ = some (.int .i64 a2_0) ∧ w'.cell? ⟨gb299, 1, none⟩ = some (.int .i64 a2_1) ∧ w'.cell? ⟨gb299, 2, none⟩ = some (.int .i64 a2_2) ∧ w'.cell? ⟨gb299, 3, none⟩ = some (.int .i64 a2_3) ∧ w'.cell? ⟨gb299, 4, none⟩ = some (.int .i64 a2_4) ∧ w'.cell? ⟨gb299, 5, none⟩ = some (.int .i64 a2_5) ∧ w'.cell? ⟨gb299, 6, none⟩ = some (.int .i64 a2_6) ∧ w'.cell? (ad314.add ((x13_3).toNat * 7)) = some (.int .i64 ((rd_T29 l0 x13_3).f0)) ∧ w'.cell? ⟨(ad314.add ((x13_3).toNat * 7)).block, (ad314.add ((x13_3).toNat * 7)).off + 1, none⟩ = some (.int .i64 ((rd_T29 l0 x13_3).f1)) ∧ w'.cell? ⟨(ad314.add ((x13_3).toNat * 7)).block, (ad314.add ((x13_3).toNat * 7)).off + 2, none⟩ = some (.int .i64 ((rd_T29 l0 x13_3).f2)) ∧ w'.cell? ⟨(ad314.add ((x13_3).toNat * 7)).block, (ad314.add ((x13_3).toNat * 7)).off + 3, none⟩ = some (.int .i64 ((rd_T29 l0 x13_3).f3)) ∧ w'.cell? ⟨(ad314.add ((x13_3).toNat * 7)).block, (ad314.add ((x13_3).toNat * 7)).off + 4, none⟩ = some (.int .i64 ((rd_T29 l0 x13_3).f4)) ∧ w'.cell? ⟨(ad314.add ((x13_3).toNat * 7)).block, (ad314.add ((x13_3).toNat * 7)).off + 5, none⟩ = some (.int .i64 ((rd_T29 l0 x13_3).f5)) ∧ w'.cell? ⟨(ad314.add ((x13_3).toNat * 7)).block, (ad314.add ((x13_3).toNat * 7)).off + 6, none⟩ = some (.int .i64 ((rd_T29 l0 x13_3).f6))) (ds := []) #[false, false, false, false, false, false, false] (by kernel_rfl) rfl rfl ⟨(blk_cell BK299.out 0).trans rfl, (blk_cell BK299.out 1).trans rfl, (blk_cell BK299.out 2).trans rfl, (blk_cell BK299.out 3).trans rfl, (blk_cell BK299.out 4).trans rfl, (blk_cell BK299.out 5).trans rfl, (blk_cell BK299.out 6).trans rfl, (hbC HB hw314_0), (hbC HB hw314_1), (hbC HB hw314_2), (hbC HB hw314_3), (hbC HB hw314_4), (hbC HB hw314_5), (hbC HB hw314_6)⟩ (fun hHeld => ?_)
                 generalize wr.drew = w48 at HO_11 BK299 HB hx314_0 hx314_1 hx314_2 hx314_3 hx314_4 hx314_5 hx314_6 hHeld ⊢
                 refine puA 0 73 (bs 7 1) ?_
                 refine puA 1 74 (bs 7 3) ?_
                 refine puA 2 75 (bs 7 7) ?_
                 refine tkA 3 76 (bs 7 15) hHeld ?_
                 refine tkA 4 77 (bs 7 31) hHeld ?_
                 refine one_ (i := 5) (N := some 78) (bs 7 63) rfl rfl (by kernel_rfl) (by decide) (fun K hK => ?_)
                 refine goes_ Try.func56 (by kernel_rfl) rfl #[.agg #[.int .i64 ((rd_T29 l0 x13_3).f0), .int .i64 ((rd_T29 l0 x13_3).f1), .int .i64 ((rd_T29 l0 x13_3).f2), .int .i64 ((rd_T29 l0 x13_3).f3), .int .i64 ((rd_T29 l0 x13_3).f4), .int .i64 ((rd_T29 l0 x13_3).f5), .int .i64 ((rd_T29 l0 x13_3).f6)], .agg #[.int .i64 a2_0, .int .i64 a2_1, .int .i64 a2_2, .int .i64 a2_3, .int .i64 a2_4, .int .i64 a2_5, .int .i64 a2_6]] (by rfl) rfl rfl (by (try simp only [List.map_toArray, List.map_cons, List.map_nil]); first | done | rfl | (simp only [List.length_drop, List.length_take]; rfl)) ?_
                 with_reducible refine (dancestudioref23_Less.calls ((rd_T29 l0 x13_3).f0) ((rd_T29 l0 x13_3).f1) ((rd_T29 l0 x13_3).f2) ((rd_T29 l0 x13_3).f3) ((rd_T29 l0 x13_3).f4) ((rd_T29 l0 x13_3).f5) ((rd_T29 l0 x13_3).f6) a2_0 a2_1 a2_2 a2_3 a2_4 a2_5 a2_6 true _ A46.out).mono ?_
                 rintro e w49 ⟨rfl, hb⟩
                 refine ⟨_, rfl, ?_⟩
                 have n0_ := Aside0.mk (Kd.R_below (Kd.rU HO_11.out) hb)
                 have n1_ := Aside0.mk (blk_below (bU BK299.out) hb)
                 have n2_ := Aside0.mk (below_step (hU HB.out) hb)
                 clear HO_11
                 clear BK299
                 clear HB
                 have HO_11 := n0_
                 have BK299 := n1_
                 have HB := n2_
                 clear n0_ n1_ n2_
                 (try clear hb)
                 (try clear hb2)
                 (try clear hk)
                 (try clear hi)
                 refine hK.out _ _ ⟨(blk_cell BK299.out 0).trans rfl, (blk_cell BK299.out 1).trans rfl, (blk_cell BK299.out 2).trans rfl, (blk_cell BK299.out 3).trans rfl, (blk_cell BK299.out 4).trans rfl, (blk_cell BK299.out 5).trans rfl, (blk_cell BK299.out 6).trans rfl, (hbC HB hw314_0), (hbC HB hw314_1), (hbC HB hw314_2), (hbC HB hw314_3), (hbC HB hw314_4), (hbC HB hw314_5), (hbC HB hw314_6)⟩ (fun hHeld => ?_)
                 clear hK K
                 refine nmA 78 ?_
                 refine puA 6 79 (bs 7 127) ?_
                 refine done_ (by kernel_rfl) ?_
                 try go_wp2
                 go_roundg k3
                 case measure => have := HK1.out; have := HK2.out; have := HK3.out; omega
                 case rel => exact ⟨(x11_3), (wrap64 (x13_3 + 1)), (by first | rfl | (simp; done) | (simp [*]; done)), H', ⟨by have := HK1.out; have := HK2.out; have := HK3.out; omega⟩, ⟨by (with_reducible repeat (first | apply Kd.R_alloc | apply Kd.R_drewN | apply Kd.R_drew)); exact HO_11.out⟩, ⟨by (with_reducible repeat (first | refine blk_drewN ?_ _ | refine blk_drew ?_ | refine blk_alloc ?_ _)); exact BK299.out⟩, ⟨hU HB.out⟩⟩
                ·replace c47 := Bool.eq_false_iff.mpr c47
                 subst c47
                 rw [if_neg (show ¬ (false = true) by decide)] at H
                 by_cases c50 : x11_3.length < 2513169434916
                 ·rw [if_pos c50] at H
                  have LMc50 := Aside0.mk c50
                  clear c50
                  obtain ⟨y317, hy317⟩ : ∃ y_ : List (S29), y_ = (x11_3 ++ [(⟨(rd_T29 l0 x13_3).f0, (rd_T29 l0 x13_3).f1, (rd_T29 l0 x13_3).f2, (rd_T29 l0 x13_3).f3, (rd_T29 l0 x13_3).f4, (rd_T29 l0 x13_3).f5, (rd_T29 l0 x13_3).f6⟩ : S29)]) := ⟨_, rfl⟩
                  replace H : (dancestudioref24_Put.l2 k3 l0 y317 (wrap64 (x13_3 + 1)) a2_0 a2_1 a2_2 a2_3 a2_4 a2_5 a2_6) = some (r1, r2) := by first | (rw [hy317]; with_reducible exact H) | (have H2_ := (Option.bind_some _ _).symm.trans H; rw [hy317]; with_reducible exact H2_) | (have H2_ := (Option.bind_some _ _).symm.trans H; with_reducible exact H2_) | with_reducible exact H | (rw [hy317]; exact H) | exact H
                  have Ny317 := Aside0.mk hy317
                  clear hy317
                  have H' := Aside0.mk H
                  clear H
                  try go_wp2
                  have n0_ := Aside0.mk (Kd.R_drew HO_11.out)
                  have n1_ := Aside0.mk (blk_drew BK299.out)
                  have n2_ := Aside0.mk (below_drew1 HB.out)
                  clear HO_11
                  clear BK299
                  clear HB
                  have HO_11 := n0_
                  have BK299 := n1_
                  have HB := n2_
                  clear n0_ n1_ n2_
                  have p314 : 0 ≤ (x13_3 : Int) := of_decide_eq_true (by first | (with_reducible assumption) | assumption)
                  have q314 : x13_3 < (l0.length : Int) := of_decide_eq_true (by first | (with_reducible assumption) | assumption)
                  obtain ⟨ad314, e314, hx314_0, hx314_1, hx314_2, hx314_3, hx314_4, hx314_5, hx314_6⟩ := at_T29 HR0.out x13_3 p314 q314
                  have hw314_6 := hx314_6
                  have hw314_5 := hx314_5
                  have hw314_4 := hx314_4
                  have hw314_3 := hx314_3
                  have hw314_2 := hx314_2
                  have hw314_1 := hx314_1
                  have hw314_0 := hx314_0
                  cases e314
                  replace hx314_0 := hbC HB hx314_0
                  replace hx314_1 := hbC HB hx314_1
                  replace hx314_2 := hbC HB hx314_2
                  replace hx314_3 := hbC HB hx314_3
                  replace hx314_4 := hbC HB hx314_4
                  replace hx314_5 := hbC HB hx314_5
                  replace hx314_6 := hbC HB hx314_6
                  replace p314 := eq_true p314
                  replace q314 := eq_true q314
                  refine start_ (n := 7) (S := fun w' => w'.cell? ⟨gb299, 0, none⟩ = some (.int .i64 a2_0) ∧ w'.cell? ⟨gb299, 1, none⟩ = some (.int .i64 a2_1) ∧ w'.cell? ⟨gb299, 2, none⟩ = some (.int .i64 a2_2) ∧ w'.cell? ⟨gb299, 3, none⟩ = some (.int .i64 a2_3) ∧ w'.cell? ⟨gb299, 4, none⟩ = some (.int .i64 a2_4) ∧ w'.cell? ⟨gb299, 5, none⟩ = some (.int .i64 a2_5) ∧ w'.cell? ⟨gb299, 6, none⟩ = some (.int .i64 a2_6) ∧ w'.cell? (ad314.add ((x13_3).toNat * 7)) = some (.int .i64 ((rd_T29 l0 x13_3).f0)) ∧ w'.cell? ⟨(ad314.add ((x13_3).toNat * 7)).block, (ad314.add ((x13_3).toNat * 7)).off + 1, none⟩ = some (.int .i64 ((rd_T29 l0 x13_3).f1)) ∧ w'.cell? ⟨(ad314.add ((x13_3).toNat * 7)).block, (ad314.add ((x13_3).toNat * 7)).off + 2, none⟩ = some (.int .i64 ((rd_T29 l0 x13_3).f2)) ∧ w'.cell? ⟨(ad314.add ((x13_3).toNat * 7)).block, (ad314.add ((x13_3).toNat * 7)).off + 3, none⟩ = some (.int .i64 ((rd_T29 l0 x13_3).f3)) ∧ w'.cell? ⟨(ad314.add ((x13_3).toNat * 7)).block, (ad314.add ((x13_3).toNat * 7)).off + 4, none⟩ = some (.int .i64 ((rd_T29 l0 x13_3).f4)) ∧ w'.cell? ⟨(ad314.add ((x13_3).toNat * 7)).block, (ad314.add ((x13_3).toNat * 7)).off + 5, none⟩ = some (.int .i64 ((rd_T29 l0 x13_3).f5)) ∧ w'.cell? ⟨(ad314.add ((x13_3).toNat * 7)).block, (ad314.add ((x13_3).toNat * 7)).off + 6, none⟩ = some (.int .i64 ((rd_T29 l0 x13_3).f6))) (ds := []) #[false, false, false, false, false, false, false] (by kernel_rfl) rfl rfl ⟨(blk_cell BK299.out 0).trans rfl, (blk_cell BK299.out 1).trans rfl, (blk_cell BK299.out 2).trans rfl, (blk_cell BK299.out 3).trans rfl, (blk_cell BK299.out 4).trans rfl, (blk_cell BK299.out 5).trans rfl, (blk_cell BK299.out 6).trans rfl, (hbC HB hw314_0), (hbC HB hw314_1), (hbC HB hw314_2), (hbC HB hw314_3), (hbC HB hw314_4), (hbC HB hw314_5), (hbC HB hw314_6)⟩ (fun hHeld => ?_)
                  generalize wr.drew = w51 at HO_11 BK299 HB hx314_0 hx314_1 hx314_2 hx314_3 hx314_4 hx314_5 hx314_6 hHeld ⊢
                  refine puA 0 73 (bs 7 1) ?_
                  refine puA 1 74 (bs 7 3) ?_
                  refine puA 2 75 (bs 7 7) ?_
                  refine tkA 3 76 (bs 7 15) hHeld ?_
                  refine tkA 4 77 (bs 7 31) hHeld ?_
                  refine one_ (i := 5) (N := some 78) (bs 7 63) rfl rfl (by kernel_rfl) (by decide) (fun K hK => ?_)
                  refine goes_ Try.func56 (by kernel_rfl) rfl #[.agg #[.int .i64 ((rd_T29 l0 x13_3).f0), .int .i64 ((rd_T29 l0 x13_3).f1), .int .i64 ((rd_T29 l0 x13_3).f2), .int .i64 ((rd_T29 l0 x13_3).f3), .int .i64 ((rd_T29 l0 x13_3).f4), .int .i64 ((rd_T29 l0 x13_3).f5), .int .i64 ((rd_T29 l0 x13_3).f6)], .agg #[.int .i64 a2_0, .int .i64 a2_1, .int .i64 a2_2, .int .i64 a2_3, .int .i64 a2_4, .int .i64 a2_5, .int .i64 a2_6]] (by rfl) rfl rfl (by (try simp only [List.map_toArray, List.map_cons, List.map_nil]); first | done | rfl | (simp only [List.length_drop, List.length_take]; rfl)) ?_
                  with_reducible refine (dancestudioref23_Less.calls ((rd_T29 l0 x13_3).f0) ((rd_T29 l0 x13_3).f1) ((rd_T29 l0 x13_3).f2) ((rd_T29 l0 x13_3).f3) ((rd_T29 l0 x13_3).f4) ((rd_T29 l0 x13_3).f5) ((rd_T29 l0 x13_3).f6) a2_0 a2_1 a2_2 a2_3 a2_4 a2_5 a2_6 false _ A46.out).mono ?_
                  rintro e w52 ⟨rfl, hb⟩
                  refine ⟨_, rfl, ?_⟩
                  have n0_ := Aside0.mk (Kd.R_below (Kd.rU HO_11.out) hb)
                  have n1_ := Aside0.mk (blk_below (bU BK299.out) hb)
                  have n2_ := Aside0.mk (below_step (hU HB.out) hb)
                  clear HO_11
                  clear BK299
                  clear HB
                  have HO_11 := n0_
                  have BK299 := n1_
                  have HB := n2_
                  clear n0_ n1_ n2_
                  (try clear hb)
                  (try clear hb2)
                  (try clear hk)
                  (try clear hi)
                  refine hK.out _ _ ⟨(blk_cell BK299.out 0).trans rfl, (blk_cell BK299.out 1).trans rfl, (blk_cell BK299.out 2).trans rfl, (blk_cell BK299.out 3).trans rfl, (blk_cell BK299.out 4).trans rfl, (blk_cell BK299.out 5).trans rfl, (blk_cell BK299.out 6).trans rfl, (hbC HB hw314_0), (hbC HB hw314_1), (hbC HB hw314_2), (hbC HB hw314_3), (hbC HB hw314_4), (hbC HB hw314_5), (hbC HB hw314_6)⟩ (fun hHeld => ?_)
                  clear hK K
                  refine nmA 78 ?_
                  refine puA 6 79 (bs 7 127) ?_
                  refine done_ (by kernel_rfl) ?_
                  have p316 : 0 ≤ (x13_3 : Int) := of_decide_eq_true (by first | (with_reducible assumption) | assumption)
                  have q316 : x13_3 < (l0.length : Int) := of_decide_eq_true (by first | (with_reducible assumption) | assumption)
                  obtain ⟨ad316, e316, hx316_0, hx316_1, hx316_2, hx316_3, hx316_4, hx316_5, hx316_6⟩ := at_T29 HR0.out x13_3 p316 q316
                  obtain rfl : ad314 = ad316 := (by injection e316)
                  replace hx316_0 := hbC HB hx316_0
                  replace hx316_1 := hbC HB hx316_1
                  replace hx316_2 := hbC HB hx316_2
                  replace hx316_3 := hbC HB hx316_3
                  replace hx316_4 := hbC HB hx316_4
                  replace hx316_5 := hbC HB hx316_5
                  replace hx316_6 := hbC HB hx316_6
                  replace p316 := eq_true p316
                  replace q316 := eq_true q316
                  try go_wp2_with (first | ((with_reducible refine gate_builtin (b := .append) (xs := #[.tmp 80, .tmp 85]) rfl ?_); at_builtin; refine Kd.R_append k29 (w0 := w) w.heap.size rfl (.tmp 80) (.tmp 85) 22 29 (.agg #[(.int .i64 0), (.int .i64 0), (.int .i64 0), (.int .i64 0), (.int .i64 0), (.int .i64 0), (.int .i64 0)]) 56 rfl Try.underlying22 info29 rfl (by decide) (by omega) u11 x11_3 (⟨(rd_T29 l0 x13_3).f0, (rd_T29 l0 x13_3).f1, (rd_T29 l0 x13_3).f2, (rd_T29 l0 x13_3).f3, (rd_T29 l0 x13_3).f4, (rd_T29 l0 x13_3).f5, (rd_T29 l0 x13_3).f6⟩ : S29) [.int .i64 ((rd_T29 l0 x13_3).f0), .int .i64 ((rd_T29 l0 x13_3).f1), .int .i64 ((rd_T29 l0 x13_3).f2), .int .i64 ((rd_T29 l0 x13_3).f3), .int .i64 ((rd_T29 l0 x13_3).f4), .int .i64 ((rd_T29 l0 x13_3).f5), .int .i64 ((rd_T29 l0 x13_3).f6)] (fun k_ => k_ ≠ gb299) (fun _ => False) rfl rfl ?aP (fun _ hk => hk.elim) ?aF ?aO ?aB ?aS ?aL ?_; (case aP => exact k29_mkM _ _ _ (⟨(rd_T29 l0 x13_3).f0, (rd_T29 l0 x13_3).f1, (rd_T29 l0 x13_3).f2, (rd_T29 l0 x13_3).f3, (rd_T29 l0 x13_3).f4, (rd_T29 l0 x13_3).f5, (rd_T29 l0 x13_3).f6⟩ : S29)); (case aB => exact (hU HB.out)); (case aF => exact (fun k_ hk => Kd.freshB (bU BK299.out) k_ hk)); (case aO => exact (Kd.rU HO_11.out)); (case aS => exact (below_size (hU HB.out))); (case aL => have := LMc50.out; omega); intro v318 w53 ho hb hg hat; rw [← Ny317.out] at ho; have n0_ := Aside0.mk (blk_grown (bU BK299.out) hg (Kd.R_away HO_11.out (fun _ hk => hk))); have n1_ := Aside0.mk (hb); have n2_ := Aside0.mk (ho); clear BK299; clear HB; clear HO_11; have BK299 := n0_; have HB := n1_; have HO319 := n2_; clear n0_ n1_ n2_; clear ho hb hg hat))
                  go_roundg k3
                  case measure => have := HK1.out; have := HK2.out; have := HK3.out; omega
                  case rel => exact ⟨(y317), (wrap64 (x13_3 + 1)), (by first | rfl | (simp; done) | (simp [*]; done)), H', ⟨by have := HK1.out; have := HK2.out; have := HK3.out; omega⟩, ⟨by (with_reducible repeat (first | apply Kd.R_alloc | apply Kd.R_drewN | apply Kd.R_drew)); exact HO319.out⟩, ⟨by (with_reducible repeat (first | refine blk_drewN ?_ _ | refine blk_drew ?_ | refine blk_alloc ?_ _)); exact BK299.out⟩, ⟨hU HB.out⟩⟩
                 ·rw [if_neg c50] at H
                  exact absurd H (by simp)
               ·rw [if_neg c45] at H
                exact absurd H (by simp)
              ·rw [if_neg c44] at H
               have c44b0 : decide (x13_3 < (l0.length : Int)) = false := decide_eq_false c44
               clear c44
               simp only [Option.some.injEq, Prod.mk.injEq] at H
               obtain ⟨rfl, rfl⟩ := H
               go_wp2
               go_ret2
               exact ⟨_, by first | rfl | (simp [errW_none, errW_some] <;> rfl) | (simp [*, errW_none, errW_some] <;> rfl), by (with_reducible repeat (first | apply Kd.R_alloc | apply Kd.R_drewN | apply Kd.R_drew)); exact Kd.R_mono HO_11.out (fun _ hk => trivial), hU HB.out⟩
           ·rw [if_neg c41] at H
            exact absurd H (by simp)
  ·rw [if_neg c7] at H
   have c7b0 : (t301 == 0) = false := beq_eq_false_iff_ne.mpr c7
   have c7b1 : (t301 != 0) = true := bne_iff_ne.mpr c7
   simp only [Option.some.injEq, Prod.mk.injEq] at H
   obtain ⟨rfl, rfl⟩ := H
   go_enter Try.func24, Try.ntmps24
   go_wp2_with (first | ((with_reducible refine gate_dst (N := 5) rfl ?_); refine box_event ?hg (N := 5) ?hd (cs := #[.int .i64 a2_0, .int .i64 a2_1, .int .i64 a2_2, .int .i64 a2_3, .int .i64 a2_4, .int .i64 a2_5, .int .i64 a2_6]) (t := 29) ?hr ?_; (case hd => rfl); (case hg => rfl); (case hr => first | (go_simp; done) | (go_simp; rfl)); intro gb299 hg w54 hbox hb; have n0_ := Aside0.mk (below_step (hU HB.out) hb); have n1_ := Aside0.mk (hbox); have n2_ := Aside0.mk ((by rw [hg]; exact (below_size (hU HB.out)) : w.heap.size ≤ gb299)); have n3_ := Aside0.mk ((by rw [hg]; exact (below_size (hU HB.out)) : w.heap.size ≤ gb299)); clear HB; have HB := n0_; have BK299 := n1_; have GW299 := n2_; have GE299 := n3_; clear n0_ n1_ n2_ n3_; clear hb hbox hg) | ((with_reducible refine gate_callee (f := 21) rfl ?_); refine goesL_ (some 16) rfl rfl Try.func21 (by kernel_rfl) rfl #[.slice A0 l0.length c0, .int .i64 a1] rfl (by (try simp only [List.map_toArray, List.map_cons, List.map_nil]); first | done | rfl | (simp only [List.length_drop, List.length_take]; rfl)) ?_; (with_reducible refine (dancestudioref24_Check.calls k _ _ l0 a1 t300 _ ?side1 ?side2 A4.out).mono ?_); (case side1 => repeat (first | exact (Kd.C_below HR0.out HB.out) | (with_reducible refine Kd.C_alloc ?_ _) | (with_reducible refine Kd.C_drewN ?_ _) | (with_reducible refine Kd.C_drew ?_))); (case side2 => exact HC0.out); rintro e w55 ⟨rfl, hb⟩; refine ⟨_, rfl, ?_⟩; have n0_ := Aside0.mk (blk_below (bU BK299.out) hb); have n1_ := Aside0.mk (below_step (hU HB.out) hb); clear BK299; clear HB; have BK299 := n0_; have HB := n1_; clear n0_ n1_; (try clear hb); (try clear hb2); (try clear hk); (try clear hi); have hcz56_0 := blk_cell BK299.out; have hfz56_0 := blk_frozen BK299.out) | ((with_reducible refine gate_callee (f := 55) rfl ?_); refine goesL_ (some 21) rfl rfl Try.func55 (by kernel_rfl) rfl #[.agg #[.int .i64 a2_0, .int .i64 a2_1, .int .i64 a2_2, .int .i64 a2_3, .int .i64 a2_4, .int .i64 a2_5, .int .i64 a2_6]] rfl (by (try simp only [List.map_toArray, List.map_cons, List.map_nil]); first | done | rfl | (simp only [List.length_drop, List.length_take]; rfl)) ?_; (with_reducible refine (dancestudioref23_Check.calls k a2_0 a2_1 a2_2 a2_3 a2_4 a2_5 a2_6 t301 _ A6.out).mono ?_); rintro e w57 ⟨rfl, hb⟩; refine ⟨_, rfl, ?_⟩; have n0_ := Aside0.mk (blk_below (bU BK299.out) hb); have n1_ := Aside0.mk (below_step (hU HB.out) hb); clear BK299; clear HB; have BK299 := n0_; have HB := n1_; clear n0_ n1_; (try clear hb); (try clear hb2); (try clear hk); (try clear hi)))
   go_ret2
   exact ⟨_, by first | rfl | (simp [errW_none, errW_some] <;> rfl) | (simp [*, errW_none, errW_some] <;> rfl), by first | exact Kd.R_nil _ _ _ _ _ | exact Kd.N_nil _ _ _ _ _ | exact Kd.V_nil _ _ _ _ _ | exact Kd.Q_nil _ _ _ _ _ | exact Kd.S_nil _ _ _ _ _, hU HB.out⟩
 ·rw [if_neg c5] at H
  have c5b0 : (t300 == 0) = false := beq_eq_false_iff_ne.mpr c5
  have c5b1 : (t300 != 0) = true := bne_iff_ne.mpr c5
  simp only [Option.some.injEq, Prod.mk.injEq] at H
  obtain ⟨rfl, rfl⟩ := H
  go_enter Try.func24, Try.ntmps24
  go_wp2_with (first | ((with_reducible refine gate_dst (N := 5) rfl ?_); refine box_event ?hg (N := 5) ?hd (cs := #[.int .i64 a2_0, .int .i64 a2_1, .int .i64 a2_2, .int .i64 a2_3, .int .i64 a2_4, .int .i64 a2_5, .int .i64 a2_6]) (t := 29) ?hr ?_; (case hd => rfl); (case hg => rfl); (case hr => first | (go_simp; done) | (go_simp; rfl)); intro gb299 hg w58 hbox hb; have n0_ := Aside0.mk (below_step (hU HB.out) hb); have n1_ := Aside0.mk (hbox); have n2_ := Aside0.mk ((by rw [hg]; exact (below_size (hU HB.out)) : w.heap.size ≤ gb299)); have n3_ := Aside0.mk ((by rw [hg]; exact (below_size (hU HB.out)) : w.heap.size ≤ gb299)); clear HB; have HB := n0_; have BK299 := n1_; have GW299 := n2_; have GE299 := n3_; clear n0_ n1_ n2_ n3_; clear hb hbox hg) | ((with_reducible refine gate_callee (f := 21) rfl ?_); refine goesL_ (some 16) rfl rfl Try.func21 (by kernel_rfl) rfl #[.slice A0 l0.length c0, .int .i64 a1] rfl (by (try simp only [List.map_toArray, List.map_cons, List.map_nil]); first | done | rfl | (simp only [List.length_drop, List.length_take]; rfl)) ?_; (with_reducible refine (dancestudioref24_Check.calls k _ _ l0 a1 t300 _ ?side1 ?side2 A4.out).mono ?_); (case side1 => repeat (first | exact (Kd.C_below HR0.out HB.out) | (with_reducible refine Kd.C_alloc ?_ _) | (with_reducible refine Kd.C_drewN ?_ _) | (with_reducible refine Kd.C_drew ?_))); (case side2 => exact HC0.out); rintro e w59 ⟨rfl, hb⟩; refine ⟨_, rfl, ?_⟩; have n0_ := Aside0.mk (blk_below (bU BK299.out) hb); have n1_ := Aside0.mk (below_step (hU HB.out) hb); clear BK299; clear HB; have BK299 := n0_; have HB := n1_; clear n0_ n1_; (try clear hb); (try clear hb2); (try clear hk); (try clear hi)))
  go_ret2
  exact ⟨_, by first | rfl | (simp [errW_none, errW_some] <;> rfl) | (simp [*, errW_none, errW_some] <;> rfl), by first | exact Kd.R_nil _ _ _ _ _ | exact Kd.N_nil _ _ _ _ _ | exact Kd.V_nil _ _ _ _ _ | exact Kd.Q_nil _ _ _ _ _ | exact Kd.S_nil _ _ _ _ _, hU HB.out⟩

end Go.Proofs.Ytdilndbanhianaa.P

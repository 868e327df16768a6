/- Texts of this seat in one: Of, P5, P6, P8, SymP, SCheckP, ROf, P10, RSymP, P12, StaffV, StaffR; no condition. -/
import Derived.Deep.Light
import Derived.Test.YtdilndbanhianaaUMA
import Derived.Test.YtdilndbanhianaaUReg
section
namespace Go.Proofs.Ytdilndbanhianaa.P
open Go.RowKit Go.Proofs.YtdilndbanhianaaW.PrintWords Go.Proofs.YtdilndbanhianaaW.PrintLast Go.Proofs.YtdilndbanhianaaW.PrintMore
set_option linter.unusedVariables false
set_option linter.unusedSimpArgs false
def ofP (a d l b : Int) : Int × Int × Int × Int :=
  if 0 ≤ a ∧ a < 6 then
    if 0 ≤ d ∧ d ≤ 8 ∧ -1 ≤ l ∧ l ≤ 1 then
      if b < 0 ∨ 6 < b then (0, 0, 0, 1)
      else if d = 0 then (if l = 0 ∨ (l = -1 ∧ (a = 2 ∨ a = 5)) then (0, 0, 0, 18) else (0, wrap64 (64 * l), b, 0))
      else (wrap64 (32 * wrap64 (d - 1)), wrap64 (32 * l), b, 0)
    else (0, 0, 0, 1)
  else (0, 0, 0, 9)
def knB (a : Int) : Bool := decide (0 ≤ a ∧ a < 6)
def aim_Of.f (a d l b : Int) : Option (Int × Int × Int × Int) := some (ofP a d l b)
theorem aim_Of.known_eq (a : Int) : aim_known.f a = some (knB a) := by
  unfold aim_known.f knB
  by_cases h : 0 ≤ a <;> simp [h]
theorem aim_Of.dcheck_eq (d l : Int) : dir_Check.f d l = some (if 0 ≤ d ∧ d ≤ 8 ∧ -1 ≤ l ∧ l ≤ 1 then 0 else 1) := by
  unfold dir_Check.f dir_valid.f
  repeat' split
  all_goals (simp at *; try omega)
theorem aim_Of.eighth_eq (d : Int) (h : 0 ≤ d ∧ d ≤ 8) (h0 : d ≠ 0) : dir_Eighth.f d = some (wrap64 (d - 1), 0) := by
  unfold dir_Eighth.f dir_valid.f
  simp [h.1, h.2, h0]
set_option maxHeartbeats 1000000 in
set_option maxRecDepth 100000 in
theorem aim_Of.calls (a0 : Int) (a1_0 : Int) (a1_1 : Int) (a1_2 : Int) (r1 : Int) (r2 : Int) (r3 : Int) (r4 : Int) (w : World) (h : aim_Of.f a0 a1_0 a1_1 a1_2 = some (r1, r2, r3, r4)) :
    Calls Try.prog 96 #[.int .i64 a0, .agg #[.int .i64 a1_0, .int .i64 a1_1, .int .i64 a1_2]] w fun e w' => e = .returned (.tuple #[.agg #[.int .i64 r1, .int .i64 r2, .int .i64 r3], .int .i64 r4]) ∧ Below w.heap.size w w' := by
  have hu44 := Try.underlying98
  have hu32 := Try.underlying102
  have H := Aside0.mk (Option.some.inj h).symm
  clear h
  obtain ⟨c, hc⟩ : ∃ c : Int, c = if 0 ≤ a1_0 ∧ a1_0 ≤ 8 ∧ -1 ≤ a1_1 ∧ a1_1 ≤ 1 then 0 else 1 := ⟨_, rfl⟩
  have HC := Aside0.mk hc
  have HD := Aside0.mk (hc ▸ aim_Of.dcheck_eq a1_0 a1_1)
  clear hc
  go_enter Try.func96, Try.ntmps96
  go_wp2_with (first | (go_at_call 103; refine (aim_known.calls _ (knB _) _ (aim_Of.known_eq _)).mono ?_; rintro e w' ⟨rfl, ⟨nd, rfl⟩⟩) | (go_at_call 95; refine (dir_Check.calls _ _ c _ HD.out).mono ?_; rintro e w' ⟨rfl, ⟨nd, rfl⟩⟩) | (go_at_call 104; refine (dir_Eighth.calls _ (wrap64 (a1_0 - 1)) 0 _ (aim_Of.eighth_eq _ (by have hc := HC.out; go_light; split at hc <;> simp_all) (by go_light; simp_all))).mono ?_; rintro e w' ⟨rfl, ⟨nd, rfl⟩⟩))
  all_goals (refine bodyPost_ret (by simp [results, Try.results96, go_sem]; rfl) rfl ⟨?_, by repeat (first | exact Below.refl _ _ | apply below_alloc | apply pw_below_drewN | apply below_drew1 | refine below_set ?_ (by simp))⟩; go_light)
  all_goals
    have h := H.out
    have hc := HC.out
    clear H HC HD hu44 hu32
    unfold ofP at h
    unfold knB at *
    (repeat' split at h) <;> (repeat' split at hc) <;> first | (simp_all; done) | (simp_all [wrap64]; done) | (exfalso; simp_all; omega) | (exfalso; simp at *; omega)
end Go.Proofs.Ytdilndbanhianaa.P
end
section
namespace Go.Proofs.Ytdilndbanhianaa.P
open Go.RowKit Go.Proofs.YtdilndbanhianaaW.PrintWords Go.Proofs.YtdilndbanhianaaW.PrintLast Go.Proofs.YtdilndbanhianaaW.PrintMore
attribute [local go_sem] max2_int min2_int max_two min_two max_three min_three max_four min_four   -- for this text's walks alone
set_option linter.unusedVariables false
set_option linter.unusedSimpArgs false

/-! ### symbol_says: function 82 -/
def symbol_says.j0 : Nat → Bool → Int → Int → Int → Int → Int → Int → Int → Option (Int)
 | 0, _, _, _, _, _, _, _, _ => none
 | k + 1, x62, x107000, x107001, x107002, x107003, x107004, x107005, x107006 => if x62 = true then (some 2) else (if x107006 < (-16) then (some 1) else (if x107006 > 16 then (some 1) else (if x107006 = 0 then (some 1) else (some 0))))
def symbol_says.f (k : Nat) (a0_0 : Int) (a0_1 : Int) (a0_2 : Int) (a0_3 : Int) (a0_4 : Int) (a0_5 : Int) (a0_6 : Int) : Option (Int) := if a0_0 = 1 then ((dir_Check.f a0_4 a0_5).bind fun t107 => (if t107 = 0 then (if a0_6 = 0 then (some 0) else (some 2)) else (some t107))) else (if a0_0 = 2 then (if a0_4 = 0 then (if a0_5 = 0 then (if a0_6 = 0 then (some 0) else (some 2)) else (some 2)) else (some 2)) else (if a0_0 = 3 then ((aim_Of.f (wrap64 (a0_1 - 2)) a0_4 a0_5 a0_6).bind fun bt108 => (some bt108.2.2.2)) else (if a0_0 = 4 then (if a0_4 = 0 then (symbol_says.j0 k (a0_5 != 0) a0_0 a0_1 a0_2 a0_3 a0_4 a0_5 a0_6) else (symbol_says.j0 k true a0_0 a0_1 a0_2 a0_3 a0_4 a0_5 a0_6)) else (some 0))))
theorem symbol_says.mono_l : ∀ k, (∀ y0 y1 y2 y3 y4 y5 y6 y7, LeO (symbol_says.j0 k y0 y1 y2 y3 y4 y5 y6 y7) (symbol_says.j0 (k + 1) y0 y1 y2 y3 y4 y5 y6 y7))
 | 0 => fun _ _ _ _ _ _ _ _ r h => by simp [symbol_says.j0] at h
 | k + 1 => by
  have ih0 := symbol_says.mono_l k
  ·intro y0 y1 y2 y3 y4 y5 y6 y7
   unfold symbol_says.j0
   repeat' first
   | (with_reducible exact ih0 _ _ _ _ _ _ _ _)
   | (with_reducible exact LeO.refl _)
   | (with_reducible exact LeO.none _)
   | (with_reducible refine LeO.ite ?_ ?_)
   | (with_reducible refine LeO.bind ?_ (fun _ => ?_))
   | exact ih0 _ _ _ _ _ _ _ _
   | exact LeO.none _
   | refine LeO.ite ?_ ?_
   | refine LeO.bind ?_ (fun _ => ?_)
theorem symbol_says.mono : ∀ a0 a1 a2 a3 a4 a5 a6 k, LeO (symbol_says.f k a0 a1 a2 a3 a4 a5 a6) (symbol_says.f (k + 1) a0 a1 a2 a3 a4 a5 a6) := by
 intro a0 a1 a2 a3 a4 a5 a6 k
 have ih0 := symbol_says.mono_l k
 unfold symbol_says.f
 repeat' first
   | (with_reducible exact ih0 _ _ _ _ _ _ _ _)
   | (with_reducible exact LeO.refl _)
   | (with_reducible exact LeO.none _)
   | (with_reducible refine LeO.ite ?_ ?_)
   | (with_reducible refine LeO.bind ?_ (fun _ => ?_))
   | exact ih0 _ _ _ _ _ _ _ _
   | exact LeO.none _
   | refine LeO.ite ?_ ?_
   | refine LeO.bind ?_ (fun _ => ?_)
set_option maxHeartbeats 8000000 in
set_option maxRecDepth 100000 in
theorem symbol_says.calls (k : Nat) (a0_0 : Int) (a0_1 : Int) (a0_2 : Int) (a0_3 : Int) (a0_4 : Int) (a0_5 : Int) (a0_6 : Int) (r : Int) (w : World) (h : symbol_says.f k a0_0 a0_1 a0_2 a0_3 a0_4 a0_5 a0_6 = some r) :
  Calls Try.prog 82 #[.agg #[.int .i64 a0_0, .int .i64 a0_1, .int .i64 a0_2, .int .i64 a0_3, .int .i64 a0_4, .int .i64 a0_5, .int .i64 a0_6]] w fun e w' => e = .returned (.int .i64 r) ∧ Below w.heap.size w w' := by
 have hu29 := Try.underlying29
 have hu102 := Try.underlying102
 have hu98 := Try.underlying98
 have HB := Aside0.mk (Below.refl w.heap.size w)
 have H : (if a0_0 = 1 then ((dir_Check.f a0_4 a0_5).bind fun t107 => (if t107 = 0 then (if a0_6 = 0 then (some 0) else (some 2)) else (some t107))) else (if a0_0 = 2 then (if a0_4 = 0 then (if a0_5 = 0 then (if a0_6 = 0 then (some 0) else (some 2)) else (some 2)) else (some 2)) else (if a0_0 = 3 then ((aim_Of.f (wrap64 (a0_1 - 2)) a0_4 a0_5 a0_6).bind fun bt108 => (some bt108.2.2.2)) else (if a0_0 = 4 then (if a0_4 = 0 then (symbol_says.j0 k (a0_5 != 0) a0_0 a0_1 a0_2 a0_3 a0_4 a0_5 a0_6) else (symbol_says.j0 k true a0_0 a0_1 a0_2 a0_3 a0_4 a0_5 a0_6)) else (some 0))))) = some r := h
 clear h
 by_cases c2 : a0_0 = 1
 ·rw [if_pos c2] at H
  have c2b0 : (a0_0 == 1) = true := beq_iff_eq.mpr c2
  have c2b1 : (a0_0 != 1) = false := bne_eq_false_iff_eq.mpr c2
  clear c2
  replace H := Option.bind_eq_some_iff.mp H
  obtain ⟨t107, A30, H⟩ := H
  replace H : (if t107 = 0 then (if a0_6 = 0 then (some 0) else (some 2)) else (some t107)) = some r := H
  have A3 := Aside0.mk A30
  clear A30
  by_cases c4 : t107 = 0
  ·rw [if_pos c4] at H
   have c4b0 : (t107 == 0) = true := beq_iff_eq.mpr c4
   have c4b1 : (t107 != 0) = false := bne_eq_false_iff_eq.mpr c4
   clear c4
   by_cases c5 : a0_6 = 0
   ·rw [if_pos c5] at H
    have c5b0 : (a0_6 == 0) = true := beq_iff_eq.mpr c5
    have c5b1 : (a0_6 != 0) = false := bne_eq_false_iff_eq.mpr c5
    clear c5
    obtain rfl := Option.some.inj H
    go_enter Try.func82, Try.ntmps82
    go_wp2_with (first | ((with_reducible refine gate_dst (N := 1) rfl ?_); refine box_event ?hg (N := 1) ?hd (cs := #[.int .i64 a0_0, .int .i64 a0_1, .int .i64 a0_2, .int .i64 a0_3, .int .i64 a0_4, .int .i64 a0_5, .int .i64 a0_6]) (t := 29) ?hr ?_; (case hd => rfl); (case hg => rfl); (case hr => first | (go_simp; done) | (go_simp; rfl)); intro gb106 hg w6 hbox hb; have n0_ := Aside0.mk (below_step (hU HB.out) hb); have n1_ := Aside0.mk (hbox); have n2_ := Aside0.mk ((by rw [hg]; exact (below_size (hU HB.out)) : w.heap.size ≤ gb106)); have n3_ := Aside0.mk ((by rw [hg]; exact (below_size (hU HB.out)) : w.heap.size ≤ gb106)); clear HB; have HB := n0_; have BK106 := n1_; have GW106 := n2_; have GE106 := n3_; clear n0_ n1_ n2_ n3_; clear hb hbox hg; have hcz7_0 := blk_cell BK106.out; have hfz7_0 := blk_frozen BK106.out) | ((with_reducible refine gate_callee (f := 95) rfl ?_); refine goesL_ (some 14) rfl rfl Try.func95 (by kernel_rfl) rfl #[.int .i64 a0_4, .int .i64 a0_5] rfl (by (try simp only [List.map_toArray, List.map_cons, List.map_nil]); first | done | rfl | (simp only [List.length_drop, List.length_take]; rfl)) ?_; (with_reducible refine (dir_Check.calls a0_4 a0_5 t107 _ A3.out).mono ?_); rintro e w' ⟨rfl, ⟨nd, rfl⟩⟩; refine ⟨_, rfl, ?_⟩))
    go_ret
    exact ⟨by first | rfl | (simp [errW_none, errW_some] <;> rfl) | (simp [*, errW_none, errW_some] <;> rfl), hU HB.out⟩
   ·rw [if_neg c5] at H
    have c5b0 : (a0_6 == 0) = false := beq_eq_false_iff_ne.mpr c5
    have c5b1 : (a0_6 != 0) = true := bne_iff_ne.mpr c5
    obtain rfl := Option.some.inj H
    go_enter Try.func82, Try.ntmps82
    go_wp2_with (first | ((with_reducible refine gate_dst (N := 1) rfl ?_); refine box_event ?hg (N := 1) ?hd (cs := #[.int .i64 a0_0, .int .i64 a0_1, .int .i64 a0_2, .int .i64 a0_3, .int .i64 a0_4, .int .i64 a0_5, .int .i64 a0_6]) (t := 29) ?hr ?_; (case hd => rfl); (case hg => rfl); (case hr => first | (go_simp; done) | (go_simp; rfl)); intro gb106 hg w8 hbox hb; have n0_ := Aside0.mk (below_step (hU HB.out) hb); have n1_ := Aside0.mk (hbox); have n2_ := Aside0.mk ((by rw [hg]; exact (below_size (hU HB.out)) : w.heap.size ≤ gb106)); have n3_ := Aside0.mk ((by rw [hg]; exact (below_size (hU HB.out)) : w.heap.size ≤ gb106)); clear HB; have HB := n0_; have BK106 := n1_; have GW106 := n2_; have GE106 := n3_; clear n0_ n1_ n2_ n3_; clear hb hbox hg; have hcz9_0 := blk_cell BK106.out; have hfz9_0 := blk_frozen BK106.out) | ((with_reducible refine gate_callee (f := 95) rfl ?_); refine goesL_ (some 14) rfl rfl Try.func95 (by kernel_rfl) rfl #[.int .i64 a0_4, .int .i64 a0_5] rfl (by (try simp only [List.map_toArray, List.map_cons, List.map_nil]); first | done | rfl | (simp only [List.length_drop, List.length_take]; rfl)) ?_; (with_reducible refine (dir_Check.calls a0_4 a0_5 t107 _ A3.out).mono ?_); rintro e w' ⟨rfl, ⟨nd, rfl⟩⟩; refine ⟨_, rfl, ?_⟩))
    go_ret
    exact ⟨by first | rfl | (simp [errW_none, errW_some] <;> rfl) | (simp [*, errW_none, errW_some] <;> rfl), hU HB.out⟩
  ·rw [if_neg c4] at H
   have c4b0 : (t107 == 0) = false := beq_eq_false_iff_ne.mpr c4
   have c4b1 : (t107 != 0) = true := bne_iff_ne.mpr c4
   obtain rfl := Option.some.inj H
   go_enter Try.func82, Try.ntmps82
   go_wp2_with (first | ((with_reducible refine gate_dst (N := 1) rfl ?_); refine box_event ?hg (N := 1) ?hd (cs := #[.int .i64 a0_0, .int .i64 a0_1, .int .i64 a0_2, .int .i64 a0_3, .int .i64 a0_4, .int .i64 a0_5, .int .i64 a0_6]) (t := 29) ?hr ?_; (case hd => rfl); (case hg => rfl); (case hr => first | (go_simp; done) | (go_simp; rfl)); intro gb106 hg w10 hbox hb; have n0_ := Aside0.mk (below_step (hU HB.out) hb); have n1_ := Aside0.mk (hbox); have n2_ := Aside0.mk ((by rw [hg]; exact (below_size (hU HB.out)) : w.heap.size ≤ gb106)); have n3_ := Aside0.mk ((by rw [hg]; exact (below_size (hU HB.out)) : w.heap.size ≤ gb106)); clear HB; have HB := n0_; have BK106 := n1_; have GW106 := n2_; have GE106 := n3_; clear n0_ n1_ n2_ n3_; clear hb hbox hg; have hcz11_0 := blk_cell BK106.out; have hfz11_0 := blk_frozen BK106.out) | ((with_reducible refine gate_callee (f := 95) rfl ?_); refine goesL_ (some 14) rfl rfl Try.func95 (by kernel_rfl) rfl #[.int .i64 a0_4, .int .i64 a0_5] rfl (by (try simp only [List.map_toArray, List.map_cons, List.map_nil]); first | done | rfl | (simp only [List.length_drop, List.length_take]; rfl)) ?_; (with_reducible refine (dir_Check.calls a0_4 a0_5 t107 _ A3.out).mono ?_); rintro e w' ⟨rfl, ⟨nd, rfl⟩⟩; refine ⟨_, rfl, ?_⟩))
   go_ret
   exact ⟨by first | rfl | (simp [errW_none, errW_some] <;> rfl) | (simp [*, errW_none, errW_some] <;> rfl), hU HB.out⟩
 ·rw [if_neg c2] at H
  have c2b0 : (a0_0 == 1) = false := beq_eq_false_iff_ne.mpr c2
  have c2b1 : (a0_0 != 1) = true := bne_iff_ne.mpr c2
  by_cases c12 : a0_0 = 2
  ·rw [if_pos c12] at H
   have c12b0 : (a0_0 == 2) = true := beq_iff_eq.mpr c12
   have c12b1 : (a0_0 != 2) = false := bne_eq_false_iff_eq.mpr c12
   clear c12
   by_cases c13 : a0_4 = 0
   ·rw [if_pos c13] at H
    have c13b0 : (a0_4 == 0) = true := beq_iff_eq.mpr c13
    have c13b1 : (a0_4 != 0) = false := bne_eq_false_iff_eq.mpr c13
    clear c13
    by_cases c14 : a0_5 = 0
    ·rw [if_pos c14] at H
     have c14b0 : (a0_5 == 0) = true := beq_iff_eq.mpr c14
     have c14b1 : (a0_5 != 0) = false := bne_eq_false_iff_eq.mpr c14
     clear c14
     by_cases c15 : a0_6 = 0
     ·rw [if_pos c15] at H
      have c15b0 : (a0_6 == 0) = true := beq_iff_eq.mpr c15
      have c15b1 : (a0_6 != 0) = false := bne_eq_false_iff_eq.mpr c15
      clear c15
      obtain rfl := Option.some.inj H
      go_enter Try.func82, Try.ntmps82
      go_wp2_with (first | ((with_reducible refine gate_dst (N := 1) rfl ?_); refine box_event ?hg (N := 1) ?hd (cs := #[.int .i64 a0_0, .int .i64 a0_1, .int .i64 a0_2, .int .i64 a0_3, .int .i64 a0_4, .int .i64 a0_5, .int .i64 a0_6]) (t := 29) ?hr ?_; (case hd => rfl); (case hg => rfl); (case hr => first | (go_simp; done) | (go_simp; rfl)); intro gb106 hg w16 hbox hb; have n0_ := Aside0.mk (below_step (hU HB.out) hb); have n1_ := Aside0.mk (hbox); have n2_ := Aside0.mk ((by rw [hg]; exact (below_size (hU HB.out)) : w.heap.size ≤ gb106)); have n3_ := Aside0.mk ((by rw [hg]; exact (below_size (hU HB.out)) : w.heap.size ≤ gb106)); clear HB; have HB := n0_; have BK106 := n1_; have GW106 := n2_; have GE106 := n3_; clear n0_ n1_ n2_ n3_; clear hb hbox hg; have hcz17_0 := blk_cell BK106.out; have hfz17_0 := blk_frozen BK106.out))
      go_ret
      exact ⟨by first | rfl | (simp [errW_none, errW_some] <;> rfl) | (simp [*, errW_none, errW_some] <;> rfl), hU HB.out⟩
     ·rw [if_neg c15] at H
      have c15b0 : (a0_6 == 0) = false := beq_eq_false_iff_ne.mpr c15
      have c15b1 : (a0_6 != 0) = true := bne_iff_ne.mpr c15
      obtain rfl := Option.some.inj H
      go_enter Try.func82, Try.ntmps82
      go_wp2_with (first | ((with_reducible refine gate_dst (N := 1) rfl ?_); refine box_event ?hg (N := 1) ?hd (cs := #[.int .i64 a0_0, .int .i64 a0_1, .int .i64 a0_2, .int .i64 a0_3, .int .i64 a0_4, .int .i64 a0_5, .int .i64 a0_6]) (t := 29) ?hr ?_; (case hd => rfl); (case hg => rfl); (case hr => first | (go_simp; done) | (go_simp; rfl)); intro gb106 hg w18 hbox hb; have n0_ := Aside0.mk (below_step (hU HB.out) hb); have n1_ := Aside0.mk (hbox); have n2_ := Aside0.mk ((by rw [hg]; exact (below_size (hU HB.out)) : w.heap.size ≤ gb106)); have n3_ := Aside0.mk ((by rw [hg]; exact (below_size (hU HB.out)) : w.heap.size ≤ gb106)); clear HB; have HB := n0_; have BK106 := n1_; have GW106 := n2_; have GE106 := n3_; clear n0_ n1_ n2_ n3_; clear hb hbox hg; have hcz19_0 := blk_cell BK106.out; have hfz19_0 := blk_frozen BK106.out))
      go_ret
      exact ⟨by first | rfl | (simp [errW_none, errW_some] <;> rfl) | (simp [*, errW_none, errW_some] <;> rfl), hU HB.out⟩
    ·rw [if_neg c14] at H
     have c14b0 : (a0_5 == 0) = false := beq_eq_false_iff_ne.mpr c14
     have c14b1 : (a0_5 != 0) = true := bne_iff_ne.mpr c14
     obtain rfl := Option.some.inj H
     go_enter Try.func82, Try.ntmps82
     go_wp2_with (first | ((with_reducible refine gate_dst (N := 1) rfl ?_); refine box_event ?hg (N := 1) ?hd (cs := #[.int .i64 a0_0, .int .i64 a0_1, .int .i64 a0_2, .int .i64 a0_3, .int .i64 a0_4, .int .i64 a0_5, .int .i64 a0_6]) (t := 29) ?hr ?_; (case hd => rfl); (case hg => rfl); (case hr => first | (go_simp; done) | (go_simp; rfl)); intro gb106 hg w20 hbox hb; have n0_ := Aside0.mk (below_step (hU HB.out) hb); have n1_ := Aside0.mk (hbox); have n2_ := Aside0.mk ((by rw [hg]; exact (below_size (hU HB.out)) : w.heap.size ≤ gb106)); have n3_ := Aside0.mk ((by rw [hg]; exact (below_size (hU HB.out)) : w.heap.size ≤ gb106)); clear HB; have HB := n0_; have BK106 := n1_; have GW106 := n2_; have GE106 := n3_; clear n0_ n1_ n2_ n3_; clear hb hbox hg; have hcz21_0 := blk_cell BK106.out; have hfz21_0 := blk_frozen BK106.out))
     go_ret
     exact ⟨by first | rfl | (simp [errW_none, errW_some] <;> rfl) | (simp [*, errW_none, errW_some] <;> rfl), hU HB.out⟩
   ·rw [if_neg c13] at H
    have c13b0 : (a0_4 == 0) = false := beq_eq_false_iff_ne.mpr c13
    have c13b1 : (a0_4 != 0) = true := bne_iff_ne.mpr c13
    obtain rfl := Option.some.inj H
    go_enter Try.func82, Try.ntmps82
    go_wp2_with (first | ((with_reducible refine gate_dst (N := 1) rfl ?_); refine box_event ?hg (N := 1) ?hd (cs := #[.int .i64 a0_0, .int .i64 a0_1, .int .i64 a0_2, .int .i64 a0_3, .int .i64 a0_4, .int .i64 a0_5, .int .i64 a0_6]) (t := 29) ?hr ?_; (case hd => rfl); (case hg => rfl); (case hr => first | (go_simp; done) | (go_simp; rfl)); intro gb106 hg w22 hbox hb; have n0_ := Aside0.mk (below_step (hU HB.out) hb); have n1_ := Aside0.mk (hbox); have n2_ := Aside0.mk ((by rw [hg]; exact (below_size (hU HB.out)) : w.heap.size ≤ gb106)); have n3_ := Aside0.mk ((by rw [hg]; exact (below_size (hU HB.out)) : w.heap.size ≤ gb106)); clear HB; have HB := n0_; have BK106 := n1_; have GW106 := n2_; have GE106 := n3_; clear n0_ n1_ n2_ n3_; clear hb hbox hg; have hcz23_0 := blk_cell BK106.out; have hfz23_0 := blk_frozen BK106.out))
    go_ret
    exact ⟨by first | rfl | (simp [errW_none, errW_some] <;> rfl) | (simp [*, errW_none, errW_some] <;> rfl), hU HB.out⟩
  ·rw [if_neg c12] at H
   have c12b0 : (a0_0 == 2) = false := beq_eq_false_iff_ne.mpr c12
   have c12b1 : (a0_0 != 2) = true := bne_iff_ne.mpr c12
   by_cases c24 : a0_0 = 3
   ·rw [if_pos c24] at H
    have c24b0 : (a0_0 == 3) = true := beq_iff_eq.mpr c24
    have c24b1 : (a0_0 != 3) = false := bne_eq_false_iff_eq.mpr c24
    clear c24
    replace H := Option.bind_eq_some_iff.mp H
    obtain ⟨⟨t108, t109, t110, t111⟩, A250, H⟩ := H
    replace H : (some t111) = some r := H
    have A25 := Aside0.mk A250
    clear A250
    obtain rfl := Option.some.inj H
    go_enter Try.func82, Try.ntmps82
    go_wp2_with (first | ((with_reducible refine gate_dst (N := 1) rfl ?_); refine box_event ?hg (N := 1) ?hd (cs := #[.int .i64 a0_0, .int .i64 a0_1, .int .i64 a0_2, .int .i64 a0_3, .int .i64 a0_4, .int .i64 a0_5, .int .i64 a0_6]) (t := 29) ?hr ?_; (case hd => rfl); (case hg => rfl); (case hr => first | (go_simp; done) | (go_simp; rfl)); intro gb106 hg w26 hbox hb; have n0_ := Aside0.mk (below_step (hU HB.out) hb); have n1_ := Aside0.mk (hbox); have n2_ := Aside0.mk ((by rw [hg]; exact (below_size (hU HB.out)) : w.heap.size ≤ gb106)); have n3_ := Aside0.mk ((by rw [hg]; exact (below_size (hU HB.out)) : w.heap.size ≤ gb106)); clear HB; have HB := n0_; have BK106 := n1_; have GW106 := n2_; have GE106 := n3_; clear n0_ n1_ n2_ n3_; clear hb hbox hg; have hcz27_0 := blk_cell BK106.out; have hfz27_0 := blk_frozen BK106.out) | ((with_reducible refine gate_callee (f := 96) rfl ?_); refine goesL_ (some 49) rfl rfl Try.func96 (by kernel_rfl) rfl #[.int .i64 (wrap64 (a0_1 - 2)), .agg #[.int .i64 a0_4, .int .i64 a0_5, .int .i64 a0_6]] rfl (by (try simp only [List.map_toArray, List.map_cons, List.map_nil]); first | done | rfl | (simp only [List.length_drop, List.length_take]; rfl)) ?_; (with_reducible refine (aim_Of.calls (wrap64 (a0_1 - 2)) a0_4 a0_5 a0_6 t108 t109 t110 t111 _ A25.out).mono ?_); rintro e w28 ⟨rfl, hb⟩; refine ⟨_, rfl, ?_⟩; have n0_ := Aside0.mk (blk_below (bU BK106.out) hb); have n1_ := Aside0.mk (below_step (hU HB.out) hb); clear BK106; clear HB; have BK106 := n0_; have HB := n1_; clear n0_ n1_; (try clear hb); (try clear hb2); (try clear hk); (try clear hi)) | ((with_reducible refine gate_dst (N := 4) rfl ?_); refine box_event ?hg (N := 4) ?hd (cs := #[.int .i64 0, .int .i64 0, .int .i64 0]) (t := 98) ?hr ?_; (case hd => rfl); (case hg => rfl); (case hr => first | (go_simp; done) | (go_simp; rfl)); intro gb112 hg w29 hbox hb; have n0_ := Aside0.mk (blk_below (bU BK106.out) hb); have n1_ := Aside0.mk (below_step (hU HB.out) hb); have n2_ := Aside0.mk (hbox); have n3_ := Aside0.mk ((by rw [hg]; exact (below_size (hU HB.out)) : w.heap.size ≤ gb112)); have n4_ := Aside0.mk ((by rw [hg]; exact (below_size (hU HB.out)) : w.heap.size ≤ gb112)); have n5_ := Aside0.mk ((by rw [hg]; exact Nat.ne_of_lt (blk_lt (bU BK106.out)) : gb106 ≠ gb112)); have n6_ := Aside0.mk ((by rw [hg]; exact Nat.ne_of_gt (blk_lt (bU BK106.out)) : gb112 ≠ gb106)); clear BK106; clear HB; have BK106 := n0_; have HB := n1_; have BK112 := n2_; have GW112 := n3_; have GE112 := n4_; have NB106_112 := n5_; have NB112_106 := n6_; clear n0_ n1_ n2_ n3_ n4_ n5_ n6_; clear hb hbox hg; have hnb30 := NB112_106.out; have hnc30 := NB106_112.out; have hcz31_0 := blk_cell BK112.out; have hfz31_0 := blk_frozen BK112.out))
    go_ret
    exact ⟨by first | rfl | (simp [errW_none, errW_some] <;> rfl) | (simp [*, errW_none, errW_some] <;> rfl), hU HB.out⟩
   ·rw [if_neg c24] at H
    have c24b0 : (a0_0 == 3) = false := beq_eq_false_iff_ne.mpr c24
    have c24b1 : (a0_0 != 3) = true := bne_iff_ne.mpr c24
    by_cases c32 : a0_0 = 4
    ·rw [if_pos c32] at H
     have c32b0 : (a0_0 == 4) = true := beq_iff_eq.mpr c32
     have c32b1 : (a0_0 != 4) = false := bne_eq_false_iff_eq.mpr c32
     clear c32
     have HC33 := Aside0.mk H
     clear H
     go_enter Try.func82, Try.ntmps82
     go_upto_region 15 with (first | ((with_reducible refine gate_dst (N := 1) rfl ?_); refine box_event ?hg (N := 1) ?hd (cs := #[.int .i64 a0_0, .int .i64 a0_1, .int .i64 a0_2, .int .i64 a0_3, .int .i64 a0_4, .int .i64 a0_5, .int .i64 a0_6]) (t := 29) ?hr ?_; (case hd => rfl); (case hg => rfl); (case hr => first | (go_simp; done) | (go_simp; rfl)); intro gb106 hg w34 hbox hb; have n0_ := Aside0.mk (below_step (hU HB.out) hb); have n1_ := Aside0.mk (hbox); have n2_ := Aside0.mk ((by rw [hg]; exact (below_size (hU HB.out)) : w.heap.size ≤ gb106)); have n3_ := Aside0.mk ((by rw [hg]; exact (below_size (hU HB.out)) : w.heap.size ≤ gb106)); clear HB; have HB := n0_; have BK106 := n1_; have GW106 := n2_; have GE106 := n3_; clear n0_ n1_ n2_ n3_; clear hb hbox hg; have hcz35_0 := blk_cell BK106.out; have hfz35_0 := blk_frozen BK106.out))
     (try simp only [Act.put, List.setIfInBounds_toArray, List.set_cons_zero, List.set_cons_succ])
     go_cut [62] (fun v62 wc => ∃ (kq : Nat) (x62_32 : Bool), v62 = .bool x62_32 ∧ Aside0 (symbol_says.j0 kq x62_32 a0_0 a0_1 a0_2 a0_3 a0_4 a0_5 a0_6 = some r) ∧ Aside0 (kq ≤ k) ∧ Aside0 (wc.heap[gb106]? = some (.cells #[.int .i64 a0_0, .int .i64 a0_1, .int .i64 a0_2, .int .i64 a0_3, .int .i64 a0_4, .int .i64 a0_5, .int .i64 a0_6] 29 (0, 0))) ∧ Aside0 (Below w.heap.size w wc))
     case first =>
      have H := HC33.out
      clear HC33
      by_cases c36 : a0_4 = 0
      ·rw [if_pos c36] at H
       have c36b0 : (a0_4 == 0) = true := beq_iff_eq.mpr c36
       have c36b1 : (a0_4 != 0) = false := bne_eq_false_iff_eq.mpr c36
       clear c36
       (first | rw [c36b0] | (simp only [i64_w, i32_w]; rw [c36b0]) | skip)
       have H' := Aside0.mk H
       clear H
       have hcz37_0 := blk_cell BK106.out
       have hfz37_0 := blk_frozen BK106.out
       go_wp2
       go_meet
       case rel => exact ⟨_, ((a0_5 != 0)), (by first | rfl | (simp; done) | (simp [*]; done)), H', ⟨by first | omega | exact Nat.le_refl _⟩, ⟨by (with_reducible repeat (first | refine blk_drewN ?_ _ | refine blk_drew ?_ | refine blk_alloc ?_ _)); exact BK106.out⟩, ⟨hU HB.out⟩⟩
      ·rw [if_neg c36] at H
       have c36b0 : (a0_4 == 0) = false := beq_eq_false_iff_ne.mpr c36
       have c36b1 : (a0_4 != 0) = true := bne_iff_ne.mpr c36
       (first | rw [c36b0] | (simp only [i64_w, i32_w]; rw [c36b0]) | skip)
       have H' := Aside0.mk H
       clear H
       have hcz38_0 := blk_cell BK106.out
       have hfz38_0 := blk_frozen BK106.out
       go_wp2
       go_meet
       case rel => exact ⟨_, (true), (by first | rfl | (simp; done) | (simp [*]; done)), H', ⟨by first | omega | exact Nat.le_refl _⟩, ⟨by (with_reducible repeat (first | refine blk_drewN ?_ _ | refine blk_drew ?_ | refine blk_alloc ?_ _)); exact BK106.out⟩, ⟨hU HB.out⟩⟩
     case rest =>
      clear HC33
      try clear c1
      try clear c2
      try clear c2b0
      try clear c2b1
      try clear p2
      try clear c3
      try clear c4
      try clear c4b0
      try clear c4b1
      try clear c5
      try clear c5b0
      try clear c5b1
      try clear p6
      try clear c8
      try clear c9
      try clear c12
      try clear c12b0
      try clear c12b1
      try clear c13
      try clear c13b0
      try clear c13b1
      try clear c14
      try clear c14b0
      try clear c14b1
      try clear c15
      try clear c15b0
      try clear c15b1
      try clear c24
      try clear c24b0
      try clear c24b1
      try clear c30
      try clear c32
      try clear c32b0
      try clear c32b1
      try clear c36
      try clear c36b0
      try clear c36b1
      try clear hcz11_0
      try clear hcz11_1
      try clear hcz11_2
      try clear hcz11_3
      try clear hcz11_4
      try clear hcz11_5
      try clear hcz11_6
      try clear hcz17_0
      try clear hcz17_1
      try clear hcz17_2
      try clear hcz17_3
      try clear hcz17_4
      try clear hcz17_5
      try clear hcz17_6
      try clear hcz19_0
      try clear hcz19_1
      try clear hcz19_2
      try clear hcz19_3
      try clear hcz19_4
      try clear hcz19_5
      try clear hcz19_6
      try clear hcz21_0
      try clear hcz21_1
      try clear hcz21_2
      try clear hcz21_3
      try clear hcz21_4
      try clear hcz21_5
      try clear hcz21_6
      try clear hcz23_0
      try clear hcz23_1
      try clear hcz23_2
      try clear hcz23_3
      try clear hcz23_4
      try clear hcz23_5
      try clear hcz23_6
      try clear hcz27_0
      try clear hcz27_1
      try clear hcz27_2
      try clear hcz27_3
      try clear hcz27_4
      try clear hcz27_5
      try clear hcz27_6
      try clear hcz31_0
      try clear hcz31_1
      try clear hcz31_2
      try clear hcz35_0
      try clear hcz35_1
      try clear hcz35_2
      try clear hcz35_3
      try clear hcz35_4
      try clear hcz35_5
      try clear hcz35_6
      try clear hcz37_0
      try clear hcz37_1
      try clear hcz37_2
      try clear hcz37_3
      try clear hcz37_4
      try clear hcz37_5
      try clear hcz37_6
      try clear hcz38_0
      try clear hcz38_1
      try clear hcz38_2
      try clear hcz38_3
      try clear hcz38_4
      try clear hcz38_5
      try clear hcz38_6
      try clear hcz7_0
      try clear hcz7_1
      try clear hcz7_2
      try clear hcz7_3
      try clear hcz7_4
      try clear hcz7_5
      try clear hcz7_6
      try clear hcz9_0
      try clear hcz9_1
      try clear hcz9_2
      try clear hcz9_3
      try clear hcz9_4
      try clear hcz9_5
      try clear hcz9_6
      try clear hfz11_0
      try clear hfz11_1
      try clear hfz11_2
      try clear hfz11_3
      try clear hfz11_4
      try clear hfz11_5
      try clear hfz11_6
      try clear hfz17_0
      try clear hfz17_1
      try clear hfz17_2
      try clear hfz17_3
      try clear hfz17_4
      try clear hfz17_5
      try clear hfz17_6
      try clear hfz19_0
      try clear hfz19_1
      try clear hfz19_2
      try clear hfz19_3
      try clear hfz19_4
      try clear hfz19_5
      try clear hfz19_6
      try clear hfz21_0
      try clear hfz21_1
      try clear hfz21_2
      try clear hfz21_3
      try clear hfz21_4
      try clear hfz21_5
      try clear hfz21_6
      try clear hfz23_0
      try clear hfz23_1
      try clear hfz23_2
      try clear hfz23_3
      try clear hfz23_4
      try clear hfz23_5
      try clear hfz23_6
      try clear hfz27_0
      try clear hfz27_1
      try clear hfz27_2
      try clear hfz27_3
      try clear hfz27_4
      try clear hfz27_5
      try clear hfz27_6
      try clear hfz31_0
      try clear hfz31_1
      try clear hfz31_2
      try clear hfz35_0
      try clear hfz35_1
      try clear hfz35_2
      try clear hfz35_3
      try clear hfz35_4
      try clear hfz35_5
      try clear hfz35_6
      try clear hfz37_0
      try clear hfz37_1
      try clear hfz37_2
      try clear hfz37_3
      try clear hfz37_4
      try clear hfz37_5
      try clear hfz37_6
      try clear hfz38_0
      try clear hfz38_1
      try clear hfz38_2
      try clear hfz38_3
      try clear hfz38_4
      try clear hfz38_5
      try clear hfz38_6
      try clear hfz7_0
      try clear hfz7_1
      try clear hfz7_2
      try clear hfz7_3
      try clear hfz7_4
      try clear hfz7_5
      try clear hfz7_6
      try clear hfz9_0
      try clear hfz9_1
      try clear hfz9_2
      try clear hfz9_3
      try clear hfz9_4
      try clear hfz9_5
      try clear hfz9_6
      obtain ⟨kq, x62_32, rfl, HA, HJ32, BK106, HB⟩ := hcut
      cases kq with
      | zero => exact absurd HA.out (by simp [symbol_says.j0])
      | succ kj32 =>
       have H := HA.out
       clear HA
       simp only [symbol_says.j0] at H
       by_cases c39 : x62_32 = true
       ·subst c39
        have H1 : (some 2) = some r := by rw [if_pos rfl] at H; exact H
        clear H
        have H := H1
        clear H1
        obtain rfl := Option.some.inj H
        go_wp2
        go_ret
        exact ⟨by first | rfl | (simp [errW_none, errW_some] <;> rfl) | (simp [*, errW_none, errW_some] <;> rfl), hU HB.out⟩
       ·replace c39 := Bool.eq_false_iff.mpr c39
        subst c39
        have H1 : (if a0_6 < (-16) then (some 1) else (if a0_6 > 16 then (some 1) else (if a0_6 = 0 then (some 1) else (some 0)))) = some r := by rw [if_neg (show ¬ (false = true) by decide)] at H; exact H
        clear H
        have H := H1
        clear H1
        by_cases c40 : a0_6 < (-16)
        ·rw [if_pos c40] at H
         have c40b0 : decide (a0_6 < (-16)) = true := decide_eq_true c40
         clear c40
         obtain rfl := Option.some.inj H
         have hcz41_0 := blk_cell BK106.out
         have hfz41_0 := blk_frozen BK106.out
         go_wp2
         go_ret
         exact ⟨by first | rfl | (simp [errW_none, errW_some] <;> rfl) | (simp [*, errW_none, errW_some] <;> rfl), hU HB.out⟩
        ·rw [if_neg c40] at H
         have c40b0 : decide (a0_6 < (-16)) = false := decide_eq_false c40
         clear c40
         by_cases c42 : a0_6 > 16
         ·rw [if_pos c42] at H
          have c42b0 : decide (16 < a0_6) = true := decide_eq_true c42
          clear c42
          obtain rfl := Option.some.inj H
          have hcz43_0 := blk_cell BK106.out
          have hfz43_0 := blk_frozen BK106.out
          go_wp2
          go_ret
          exact ⟨by first | rfl | (simp [errW_none, errW_some] <;> rfl) | (simp [*, errW_none, errW_some] <;> rfl), hU HB.out⟩
         ·rw [if_neg c42] at H
          have c42b0 : decide (16 < a0_6) = false := decide_eq_false c42
          clear c42
          by_cases c44 : a0_6 = 0
          ·rw [if_pos c44] at H
           have c44b0 : (a0_6 == 0) = true := beq_iff_eq.mpr c44
           have c44b1 : (a0_6 != 0) = false := bne_eq_false_iff_eq.mpr c44
           clear c44
           obtain rfl := Option.some.inj H
           have hcz45_0 := blk_cell BK106.out
           have hfz45_0 := blk_frozen BK106.out
           go_wp2
           go_ret
           exact ⟨by first | rfl | (simp [errW_none, errW_some] <;> rfl) | (simp [*, errW_none, errW_some] <;> rfl), hU HB.out⟩
          ·rw [if_neg c44] at H
           have c44b0 : (a0_6 == 0) = false := beq_eq_false_iff_ne.mpr c44
           have c44b1 : (a0_6 != 0) = true := bne_iff_ne.mpr c44
           obtain rfl := Option.some.inj H
           have hcz46_0 := blk_cell BK106.out
           have hfz46_0 := blk_frozen BK106.out
           go_wp2
           go_ret
           exact ⟨by first | rfl | (simp [errW_none, errW_some] <;> rfl) | (simp [*, errW_none, errW_some] <;> rfl), hU HB.out⟩
    ·rw [if_neg c32] at H
     have c32b0 : (a0_0 == 4) = false := beq_eq_false_iff_ne.mpr c32
     have c32b1 : (a0_0 != 4) = true := bne_iff_ne.mpr c32
     obtain rfl := Option.some.inj H
     go_enter Try.func82, Try.ntmps82
     go_wp2_with (first | ((with_reducible refine gate_dst (N := 1) rfl ?_); refine box_event ?hg (N := 1) ?hd (cs := #[.int .i64 a0_0, .int .i64 a0_1, .int .i64 a0_2, .int .i64 a0_3, .int .i64 a0_4, .int .i64 a0_5, .int .i64 a0_6]) (t := 29) ?hr ?_; (case hd => rfl); (case hg => rfl); (case hr => first | (go_simp; done) | (go_simp; rfl)); intro gb106 hg w47 hbox hb; have n0_ := Aside0.mk (below_step (hU HB.out) hb); have n1_ := Aside0.mk (hbox); have n2_ := Aside0.mk ((by rw [hg]; exact (below_size (hU HB.out)) : w.heap.size ≤ gb106)); have n3_ := Aside0.mk ((by rw [hg]; exact (below_size (hU HB.out)) : w.heap.size ≤ gb106)); clear HB; have HB := n0_; have BK106 := n1_; have GW106 := n2_; have GE106 := n3_; clear n0_ n1_ n2_ n3_; clear hb hbox hg; have hcz48_0 := blk_cell BK106.out; have hfz48_0 := blk_frozen BK106.out))
     go_ret
     exact ⟨by first | rfl | (simp [errW_none, errW_some] <;> rfl) | (simp [*, errW_none, errW_some] <;> rfl), hU HB.out⟩

end Go.Proofs.Ytdilndbanhianaa.P
end
section
namespace Go.Proofs.Ytdilndbanhianaa.P
open Go.RowKit Go.Proofs.YtdilndbanhianaaW.PrintWords Go.Proofs.YtdilndbanhianaaW.PrintLast Go.Proofs.YtdilndbanhianaaW.PrintMore
attribute [local go_sem] max2_int min2_int max_two min_two max_three min_three max_four min_four   -- for this text's walks alone
set_option linter.unusedVariables false
set_option linter.unusedSimpArgs false

/-! ### symbol_Check: function 52 -/
def symbol_Check.j0 : Nat → Bool → Int → Int → Int → Int → Int → Int → Int → Option (Int)
 | 0, _, _, _, _, _, _, _, _ => none
 | k + 1, x3, x114000, x114001, x114002, x114003, x114004, x114005, x114006 => if x3 = true then (some 9) else ((symbol_place.f x114000 x114001 x114002 x114003 x114004 x114005 x114006).bind fun t114 => (if t114 = true then (if x114002 < 0 then (some 1) else (if x114002 ≥ 8192 then (some 1) else (if x114003 < 1 then (some 1) else (if x114003 > (wrap64 (8192 - x114002)) then (some 1) else ((symbol_says.f k x114000 x114001 x114002 x114003 x114004 x114005 x114006).bind fun t115 => (some t115)))))) else (some 16)))
def symbol_Check.f (k : Nat) (a0_0 : Int) (a0_1 : Int) (a0_2 : Int) (a0_3 : Int) (a0_4 : Int) (a0_5 : Int) (a0_6 : Int) : Option (Int) := if a0_0 < 1 then (symbol_Check.j0 k true a0_0 a0_1 a0_2 a0_3 a0_4 a0_5 a0_6) else (symbol_Check.j0 k (decide (a0_0 > 4)) a0_0 a0_1 a0_2 a0_3 a0_4 a0_5 a0_6)
theorem symbol_Check.mono_l : ∀ k, (∀ y0 y1 y2 y3 y4 y5 y6 y7, LeO (symbol_Check.j0 k y0 y1 y2 y3 y4 y5 y6 y7) (symbol_Check.j0 (k + 1) y0 y1 y2 y3 y4 y5 y6 y7))
 | 0 => fun _ _ _ _ _ _ _ _ r h => by simp [symbol_Check.j0] at h
 | k + 1 => by
  have ih0 := symbol_Check.mono_l k
  ·intro y0 y1 y2 y3 y4 y5 y6 y7
   unfold symbol_Check.j0
   repeat' first
   | (with_reducible exact ih0 _ _ _ _ _ _ _ _)
   | (with_reducible exact symbol_says.mono _ _ _ _ _ _ _ _)
   | (with_reducible exact LeO.refl _)
   | (with_reducible exact LeO.none _)
   | (with_reducible refine LeO.ite ?_ ?_)
   | (with_reducible refine LeO.bind ?_ (fun _ => ?_))
   | exact ih0 _ _ _ _ _ _ _ _
   | exact symbol_says.mono _ _ _ _ _ _ _ _
   | exact LeO.none _
   | refine LeO.ite ?_ ?_
   | refine LeO.bind ?_ (fun _ => ?_)
theorem symbol_Check.mono : ∀ a0 a1 a2 a3 a4 a5 a6 k, LeO (symbol_Check.f k a0 a1 a2 a3 a4 a5 a6) (symbol_Check.f (k + 1) a0 a1 a2 a3 a4 a5 a6) := by
 intro a0 a1 a2 a3 a4 a5 a6 k
 have ih0 := symbol_Check.mono_l k
 unfold symbol_Check.f
 repeat' first
   | (with_reducible exact ih0 _ _ _ _ _ _ _ _)
   | (with_reducible exact symbol_says.mono _ _ _ _ _ _ _ _)
   | (with_reducible exact LeO.refl _)
   | (with_reducible exact LeO.none _)
   | (with_reducible refine LeO.ite ?_ ?_)
   | (with_reducible refine LeO.bind ?_ (fun _ => ?_))
   | exact ih0 _ _ _ _ _ _ _ _
   | exact symbol_says.mono _ _ _ _ _ _ _ _
   | exact LeO.none _
   | refine LeO.ite ?_ ?_
   | refine LeO.bind ?_ (fun _ => ?_)
set_option maxHeartbeats 8000000 in
set_option maxRecDepth 100000 in
theorem symbol_Check.calls (k : Nat) (a0_0 : Int) (a0_1 : Int) (a0_2 : Int) (a0_3 : Int) (a0_4 : Int) (a0_5 : Int) (a0_6 : Int) (r : Int) (w : World) (h : symbol_Check.f k a0_0 a0_1 a0_2 a0_3 a0_4 a0_5 a0_6 = some r) :
  Calls Try.prog 52 #[.agg #[.int .i64 a0_0, .int .i64 a0_1, .int .i64 a0_2, .int .i64 a0_3, .int .i64 a0_4, .int .i64 a0_5, .int .i64 a0_6]] w fun e w' => e = .returned (.int .i64 r) ∧ Below w.heap.size w w' := by
 have hu29 := Try.underlying29
 have HB := Aside0.mk (Below.refl w.heap.size w)
 have H : (if a0_0 < 1 then (symbol_Check.j0 k true a0_0 a0_1 a0_2 a0_3 a0_4 a0_5 a0_6) else (symbol_Check.j0 k (decide (a0_0 > 4)) a0_0 a0_1 a0_2 a0_3 a0_4 a0_5 a0_6)) = some r := h
 clear h
 have HC2 := Aside0.mk H
 clear H
 go_enter Try.func52, Try.ntmps52
 go_upto_region 1 with (first | ((with_reducible refine gate_dst (N := 1) rfl ?_); refine box_event ?hg (N := 1) ?hd (cs := #[.int .i64 a0_0, .int .i64 a0_1, .int .i64 a0_2, .int .i64 a0_3, .int .i64 a0_4, .int .i64 a0_5, .int .i64 a0_6]) (t := 29) ?hr ?_; (case hd => rfl); (case hg => rfl); (case hr => first | (go_simp; done) | (go_simp; rfl)); intro gb113 hg w3 hbox hb; have n0_ := Aside0.mk (below_step (hU HB.out) hb); have n1_ := Aside0.mk (hbox); have n2_ := Aside0.mk ((by rw [hg]; exact (below_size (hU HB.out)) : w.heap.size ≤ gb113)); have n3_ := Aside0.mk ((by rw [hg]; exact (below_size (hU HB.out)) : w.heap.size ≤ gb113)); clear HB; have HB := n0_; have BK113 := n1_; have GW113 := n2_; have GE113 := n3_; clear n0_ n1_ n2_ n3_; clear hb hbox hg))
 (try simp only [Act.put, List.setIfInBounds_toArray, List.set_cons_zero, List.set_cons_succ])
 go_cut [3] (fun v3 wc => ∃ (kq : Nat) (x3_1 : Bool), v3 = .bool x3_1 ∧ Aside0 (symbol_Check.j0 kq x3_1 a0_0 a0_1 a0_2 a0_3 a0_4 a0_5 a0_6 = some r) ∧ Aside0 (kq ≤ k) ∧ Aside0 (wc.heap[gb113]? = some (.cells #[.int .i64 a0_0, .int .i64 a0_1, .int .i64 a0_2, .int .i64 a0_3, .int .i64 a0_4, .int .i64 a0_5, .int .i64 a0_6] 29 (0, 0))) ∧ Aside0 (Below w.heap.size w wc))
 case first =>
  have H := HC2.out
  clear HC2
  by_cases c4 : a0_0 < 1
  ·rw [if_pos c4] at H
   have c4b0 : decide (a0_0 < 1) = true := decide_eq_true c4
   clear c4
   (first | rw [c4b0] | (simp only [i64_w, i32_w]; rw [c4b0]) | skip)
   have H' := Aside0.mk H
   clear H
   have hcz5_0 := blk_cell BK113.out
   have hfz5_0 := blk_frozen BK113.out
   go_wp2
   go_meet
   case rel => exact ⟨_, (true), (by first | rfl | (simp; done) | (simp [*]; done)), H', ⟨by first | omega | exact Nat.le_refl _⟩, ⟨by (with_reducible repeat (first | refine blk_drewN ?_ _ | refine blk_drew ?_ | refine blk_alloc ?_ _)); exact BK113.out⟩, ⟨hU HB.out⟩⟩
  ·rw [if_neg c4] at H
   have c4b0 : decide (a0_0 < 1) = false := decide_eq_false c4
   clear c4
   (first | rw [c4b0] | (simp only [i64_w, i32_w]; rw [c4b0]) | skip)
   have H' := Aside0.mk H
   clear H
   have hcz6_0 := blk_cell BK113.out
   have hfz6_0 := blk_frozen BK113.out
   go_wp2
   go_meet
   case rel => exact ⟨_, (decide (a0_0 > 4)), (by first | rfl | (simp; done) | (simp [*]; done)), H', ⟨by first | omega | exact Nat.le_refl _⟩, ⟨by (with_reducible repeat (first | refine blk_drewN ?_ _ | refine blk_drew ?_ | refine blk_alloc ?_ _)); exact BK113.out⟩, ⟨hU HB.out⟩⟩
 case rest =>
  clear HC2
  try clear p2
  try clear c4
  try clear c4b0
  try clear c5
  try clear hcz5_0
  try clear hcz5_1
  try clear hcz5_2
  try clear hcz5_3
  try clear hcz5_4
  try clear hcz5_5
  try clear hcz5_6
  try clear hcz6_0
  try clear hcz6_1
  try clear hcz6_2
  try clear hcz6_3
  try clear hcz6_4
  try clear hcz6_5
  try clear hcz6_6
  try clear hfz5_0
  try clear hfz5_1
  try clear hfz5_2
  try clear hfz5_3
  try clear hfz5_4
  try clear hfz5_5
  try clear hfz5_6
  try clear hfz6_0
  try clear hfz6_1
  try clear hfz6_2
  try clear hfz6_3
  try clear hfz6_4
  try clear hfz6_5
  try clear hfz6_6
  obtain ⟨kq, x3_1, rfl, HA, HJ1, BK113, HB⟩ := hcut
  cases kq with
  | zero => exact absurd HA.out (by simp [symbol_Check.j0])
  | succ kj1 =>
   have H := HA.out
   clear HA
   simp only [symbol_Check.j0] at H
   by_cases c7 : x3_1 = true
   ·subst c7
    have H1 : (some 9) = some r := by rw [if_pos rfl] at H; exact H
    clear H
    have H := H1
    clear H1
    obtain rfl := Option.some.inj H
    go_wp2
    go_ret
    exact ⟨by first | rfl | (simp [errW_none, errW_some] <;> rfl) | (simp [*, errW_none, errW_some] <;> rfl), hU HB.out⟩
   ·replace c7 := Bool.eq_false_iff.mpr c7
    subst c7
    rw [if_neg (show ¬ (false = true) by decide)] at H
    replace H := Option.bind_eq_some_iff.mp H
    obtain ⟨t114, A80, H⟩ := H
    try dsimp only at H
    have A8 := Aside0.mk A80
    clear A80
    by_cases c9 : t114 = true
    ·subst c9
     rw [if_pos rfl] at H
     by_cases c10 : a0_2 < 0
     ·rw [if_pos c10] at H
      have c10b0 : decide (a0_2 < 0) = true := decide_eq_true c10
      clear c10
      obtain rfl := Option.some.inj H
      have hcz11_0 := blk_cell BK113.out
      have hfz11_0 := blk_frozen BK113.out
      go_wp2_with (first | ((with_reducible refine gate_callee (f := 81) rfl ?_); refine goesL_ (some 14) rfl rfl Try.func81 (by kernel_rfl) rfl #[.agg #[.int .i64 a0_0, .int .i64 a0_1, .int .i64 a0_2, .int .i64 a0_3, .int .i64 a0_4, .int .i64 a0_5, .int .i64 a0_6]] rfl (by (try simp only [List.map_toArray, List.map_cons, List.map_nil]); first | done | rfl | (simp only [List.length_drop, List.length_take]; rfl)) ?_; (with_reducible refine (symbol_place.calls a0_0 a0_1 a0_2 a0_3 a0_4 a0_5 a0_6 true _ A8.out).mono ?_); rintro e w12 ⟨rfl, hb⟩; refine ⟨_, rfl, ?_⟩; have n0_ := Aside0.mk (blk_below (bU BK113.out) hb); have n1_ := Aside0.mk (below_step (hU HB.out) hb); clear BK113; clear HB; have BK113 := n0_; have HB := n1_; clear n0_ n1_; (try clear hb); (try clear hb2); (try clear hk); (try clear hi); have hcz13_0 := blk_cell BK113.out; have hfz13_0 := blk_frozen BK113.out))
      go_ret
      exact ⟨by first | rfl | (simp [errW_none, errW_some] <;> rfl) | (simp [*, errW_none, errW_some] <;> rfl), hU HB.out⟩
     ·rw [if_neg c10] at H
      have c10b0 : decide (a0_2 < 0) = false := decide_eq_false c10
      clear c10
      by_cases c14 : a0_2 ≥ 8192
      ·rw [if_pos c14] at H
       have c14b0 : decide (8192 ≤ a0_2) = true := decide_eq_true c14
       clear c14
       obtain rfl := Option.some.inj H
       have hcz15_0 := blk_cell BK113.out
       have hfz15_0 := blk_frozen BK113.out
       go_wp2_with (first | ((with_reducible refine gate_callee (f := 81) rfl ?_); refine goesL_ (some 14) rfl rfl Try.func81 (by kernel_rfl) rfl #[.agg #[.int .i64 a0_0, .int .i64 a0_1, .int .i64 a0_2, .int .i64 a0_3, .int .i64 a0_4, .int .i64 a0_5, .int .i64 a0_6]] rfl (by (try simp only [List.map_toArray, List.map_cons, List.map_nil]); first | done | rfl | (simp only [List.length_drop, List.length_take]; rfl)) ?_; (with_reducible refine (symbol_place.calls a0_0 a0_1 a0_2 a0_3 a0_4 a0_5 a0_6 true _ A8.out).mono ?_); rintro e w16 ⟨rfl, hb⟩; refine ⟨_, rfl, ?_⟩; have n0_ := Aside0.mk (blk_below (bU BK113.out) hb); have n1_ := Aside0.mk (below_step (hU HB.out) hb); clear BK113; clear HB; have BK113 := n0_; have HB := n1_; clear n0_ n1_; (try clear hb); (try clear hb2); (try clear hk); (try clear hi); have hcz17_0 := blk_cell BK113.out; have hfz17_0 := blk_frozen BK113.out))
       go_ret
       exact ⟨by first | rfl | (simp [errW_none, errW_some] <;> rfl) | (simp [*, errW_none, errW_some] <;> rfl), hU HB.out⟩
      ·rw [if_neg c14] at H
       have c14b0 : decide (8192 ≤ a0_2) = false := decide_eq_false c14
       clear c14
       by_cases c18 : a0_3 < 1
       ·rw [if_pos c18] at H
        have c18b0 : decide (a0_3 < 1) = true := decide_eq_true c18
        clear c18
        obtain rfl := Option.some.inj H
        have hcz19_0 := blk_cell BK113.out
        have hfz19_0 := blk_frozen BK113.out
        go_wp2_with (first | ((with_reducible refine gate_callee (f := 81) rfl ?_); refine goesL_ (some 14) rfl rfl Try.func81 (by kernel_rfl) rfl #[.agg #[.int .i64 a0_0, .int .i64 a0_1, .int .i64 a0_2, .int .i64 a0_3, .int .i64 a0_4, .int .i64 a0_5, .int .i64 a0_6]] rfl (by (try simp only [List.map_toArray, List.map_cons, List.map_nil]); first | done | rfl | (simp only [List.length_drop, List.length_take]; rfl)) ?_; (with_reducible refine (symbol_place.calls a0_0 a0_1 a0_2 a0_3 a0_4 a0_5 a0_6 true _ A8.out).mono ?_); rintro e w20 ⟨rfl, hb⟩; refine ⟨_, rfl, ?_⟩; have n0_ := Aside0.mk (blk_below (bU BK113.out) hb); have n1_ := Aside0.mk (below_step (hU HB.out) hb); clear BK113; clear HB; have BK113 := n0_; have HB := n1_; clear n0_ n1_; (try clear hb); (try clear hb2); (try clear hk); (try clear hi); have hcz21_0 := blk_cell BK113.out; have hfz21_0 := blk_frozen BK113.out))
        go_ret
        exact ⟨by first | rfl | (simp [errW_none, errW_some] <;> rfl) | (simp [*, errW_none, errW_some] <;> rfl), hU HB.out⟩
       ·rw [if_neg c18] at H
        have c18b0 : decide (a0_3 < 1) = false := decide_eq_false c18
        clear c18
        by_cases c22 : a0_3 > (wrap64 (8192 - a0_2))
        ·rw [if_pos c22] at H
         have c22b0 : decide ((wrap64 (8192 - a0_2)) < a0_3) = true := decide_eq_true c22
         clear c22
         obtain rfl := Option.some.inj H
         have hcz23_0 := blk_cell BK113.out
         have hfz23_0 := blk_frozen BK113.out
         go_wp2_with (first | ((with_reducible refine gate_callee (f := 81) rfl ?_); refine goesL_ (some 14) rfl rfl Try.func81 (by kernel_rfl) rfl #[.agg #[.int .i64 a0_0, .int .i64 a0_1, .int .i64 a0_2, .int .i64 a0_3, .int .i64 a0_4, .int .i64 a0_5, .int .i64 a0_6]] rfl (by (try simp only [List.map_toArray, List.map_cons, List.map_nil]); first | done | rfl | (simp only [List.length_drop, List.length_take]; rfl)) ?_; (with_reducible refine (symbol_place.calls a0_0 a0_1 a0_2 a0_3 a0_4 a0_5 a0_6 true _ A8.out).mono ?_); rintro e w24 ⟨rfl, hb⟩; refine ⟨_, rfl, ?_⟩; have n0_ := Aside0.mk (blk_below (bU BK113.out) hb); have n1_ := Aside0.mk (below_step (hU HB.out) hb); clear BK113; clear HB; have BK113 := n0_; have HB := n1_; clear n0_ n1_; (try clear hb); (try clear hb2); (try clear hk); (try clear hi); have hcz25_0 := blk_cell BK113.out; have hfz25_0 := blk_frozen BK113.out))
         go_ret
         exact ⟨by first | rfl | (simp [errW_none, errW_some] <;> rfl) | (simp [*, errW_none, errW_some] <;> rfl), hU HB.out⟩
        ·rw [if_neg c22] at H
         have c22b0 : decide ((wrap64 (8192 - a0_2)) < a0_3) = false := decide_eq_false c22
         clear c22
         replace H := Option.bind_eq_some_iff.mp H
         obtain ⟨t115, A260, H⟩ := H
         replace H : (some t115) = some r := H
         have A26 := Aside0.mk A260
         clear A260
         obtain rfl := Option.some.inj H
         have hcz27_0 := blk_cell BK113.out
         have hfz27_0 := blk_frozen BK113.out
         go_wp2_with (first | ((with_reducible refine gate_callee (f := 81) rfl ?_); refine goesL_ (some 14) rfl rfl Try.func81 (by kernel_rfl) rfl #[.agg #[.int .i64 a0_0, .int .i64 a0_1, .int .i64 a0_2, .int .i64 a0_3, .int .i64 a0_4, .int .i64 a0_5, .int .i64 a0_6]] rfl (by (try simp only [List.map_toArray, List.map_cons, List.map_nil]); first | done | rfl | (simp only [List.length_drop, List.length_take]; rfl)) ?_; (with_reducible refine (symbol_place.calls a0_0 a0_1 a0_2 a0_3 a0_4 a0_5 a0_6 true _ A8.out).mono ?_); rintro e w28 ⟨rfl, hb⟩; refine ⟨_, rfl, ?_⟩; have n0_ := Aside0.mk (blk_below (bU BK113.out) hb); have n1_ := Aside0.mk (below_step (hU HB.out) hb); clear BK113; clear HB; have BK113 := n0_; have HB := n1_; clear n0_ n1_; (try clear hb); (try clear hb2); (try clear hk); (try clear hi); have hcz29_0 := blk_cell BK113.out; have hfz29_0 := blk_frozen BK113.out) | ((with_reducible refine gate_callee (f := 82) rfl ?_); refine goesL_ (some 39) rfl rfl Try.func82 (by kernel_rfl) rfl #[.agg #[.int .i64 a0_0, .int .i64 a0_1, .int .i64 a0_2, .int .i64 a0_3, .int .i64 a0_4, .int .i64 a0_5, .int .i64 a0_6]] rfl (by (try simp only [List.map_toArray, List.map_cons, List.map_nil]); first | done | rfl | (simp only [List.length_drop, List.length_take]; rfl)) ?_; (with_reducible refine (symbol_says.calls kj1 a0_0 a0_1 a0_2 a0_3 a0_4 a0_5 a0_6 t115 _ A26.out).mono ?_); rintro e w30 ⟨rfl, hb⟩; refine ⟨_, rfl, ?_⟩; have n0_ := Aside0.mk (blk_below (bU BK113.out) hb); have n1_ := Aside0.mk (below_step (hU HB.out) hb); clear BK113; clear HB; have BK113 := n0_; have HB := n1_; clear n0_ n1_; (try clear hb); (try clear hb2); (try clear hk); (try clear hi)))
         go_ret
         exact ⟨by first | rfl | (simp [errW_none, errW_some] <;> rfl) | (simp [*, errW_none, errW_some] <;> rfl), hU HB.out⟩
    ·replace c9 := Bool.eq_false_iff.mpr c9
     subst c9
     have H1 : (some 16) = some r := by rw [if_neg (show ¬ (false = true) by decide)] at H; exact H
     clear H
     have H := H1
     clear H1
     obtain rfl := Option.some.inj H
     have hcz31_0 := blk_cell BK113.out
     have hfz31_0 := blk_frozen BK113.out
     go_wp2_with (first | ((with_reducible refine gate_callee (f := 81) rfl ?_); refine goesL_ (some 14) rfl rfl Try.func81 (by kernel_rfl) rfl #[.agg #[.int .i64 a0_0, .int .i64 a0_1, .int .i64 a0_2, .int .i64 a0_3, .int .i64 a0_4, .int .i64 a0_5, .int .i64 a0_6]] rfl (by (try simp only [List.map_toArray, List.map_cons, List.map_nil]); first | done | rfl | (simp only [List.length_drop, List.length_take]; rfl)) ?_; (with_reducible refine (symbol_place.calls a0_0 a0_1 a0_2 a0_3 a0_4 a0_5 a0_6 false _ A8.out).mono ?_); rintro e w32 ⟨rfl, hb⟩; refine ⟨_, rfl, ?_⟩; have n0_ := Aside0.mk (blk_below (bU BK113.out) hb); have n1_ := Aside0.mk (below_step (hU HB.out) hb); clear BK113; clear HB; have BK113 := n0_; have HB := n1_; clear n0_ n1_; (try clear hb); (try clear hb2); (try clear hk); (try clear hi)))
     go_ret
     exact ⟨by first | rfl | (simp [errW_none, errW_some] <;> rfl) | (simp [*, errW_none, errW_some] <;> rfl), hU HB.out⟩

end Go.Proofs.Ytdilndbanhianaa.P
end
section
namespace Go.Proofs.Ytdilndbanhianaa.P
open Go.RowKit Go.Proofs.YtdilndbanhianaaW.PrintWords Go.Proofs.YtdilndbanhianaaW.PrintLast Go.Proofs.YtdilndbanhianaaW.PrintMore
attribute [local go_sem] max2_int min2_int max_two min_two max_three min_three max_four min_four   -- for this text's walks alone
set_option linter.unusedVariables false
set_option linter.unusedSimpArgs false

/-! ### symbol_Less: function 53 -/
def symbol_Less.f (k : Nat) (a0_0 : Int) (a0_1 : Int) (a0_2 : Int) (a0_3 : Int) (a0_4 : Int) (a0_5 : Int) (a0_6 : Int) (a1_0 : Int) (a1_1 : Int) (a1_2 : Int) (a1_3 : Int) (a1_4 : Int) (a1_5 : Int) (a1_6 : Int) : Option (Bool) := (cmp_Compare_int.f a0_2 a1_2).bind fun t121 => ((cmp_Compare_int.f a0_1 a1_1).bind fun t122 => ((cmp_Or_int.f k (([t121, t122] : List Int))).bind fun t126 => (some (decide (t126 < 0)))))
theorem symbol_Less.mono : ∀ a0 a1 a2 a3 a4 a5 a6 a7 a8 a9 a10 a11 a12 a13 k, LeO (symbol_Less.f k a0 a1 a2 a3 a4 a5 a6 a7 a8 a9 a10 a11 a12 a13) (symbol_Less.f (k + 1) a0 a1 a2 a3 a4 a5 a6 a7 a8 a9 a10 a11 a12 a13) := by
 intro a0 a1 a2 a3 a4 a5 a6 a7 a8 a9 a10 a11 a12 a13 k
 unfold symbol_Less.f
 repeat' first
   | (with_reducible exact cmp_Or_int.mono _ _)
   | (with_reducible exact LeO.refl _)
   | (with_reducible exact LeO.none _)
   | (with_reducible refine LeO.ite ?_ ?_)
   | (with_reducible refine LeO.bind ?_ (fun _ => ?_))
   | exact cmp_Or_int.mono _ _
   | exact LeO.none _
   | refine LeO.ite ?_ ?_
   | refine LeO.bind ?_ (fun _ => ?_)
def symbol_Less.T1 : Bool × List (List Nat × List Nat) := (true, [([], []), ([0], [0]), ([], []), ([2], [2]), ([1, 3], [1, 3]), ([], []), ([5], [5]), ([], []), ([7], [7]), ([6, 8, 4], [6, 8]), ([4, 9], [4, 9]), ([10, 9], [10]), ([11], [11]), ([12, 11, 0, 1, 2, 3, 4, 5, 6, 7, 8, 9, 10, 11, 12], [12])])
def symbol_Less.B1 : List Nat := [0, 1, 0, 4, 15, 0, 32, 0, 128, 511, 1023, 2047, 4095, 8191]
theorem symbol_Less.tab1 : rtab .any (opsOf Try.f53 1) = symbol_Less.T1 := by kernel_rfl
theorem symbol_Less.bits1 : waitsOk symbol_Less.T1.2 symbol_Less.B1 = true := by kernel_rfl
set_option maxHeartbeats 8000000 in
set_option maxRecDepth 100000 in
theorem symbol_Less.calls (k : Nat) (a0_0 : Int) (a0_1 : Int) (a0_2 : Int) (a0_3 : Int) (a0_4 : Int) (a0_5 : Int) (a0_6 : Int) (a1_0 : Int) (a1_1 : Int) (a1_2 : Int) (a1_3 : Int) (a1_4 : Int) (a1_5 : Int) (a1_6 : Int) (r : Bool) (w : World) (h : symbol_Less.f k a0_0 a0_1 a0_2 a0_3 a0_4 a0_5 a0_6 a1_0 a1_1 a1_2 a1_3 a1_4 a1_5 a1_6 = some r) :
  Calls Try.prog 53 #[.agg #[.int .i64 a0_0, .int .i64 a0_1, .int .i64 a0_2, .int .i64 a0_3, .int .i64 a0_4, .int .i64 a0_5, .int .i64 a0_6], .agg #[.int .i64 a1_0, .int .i64 a1_1, .int .i64 a1_2, .int .i64 a1_3, .int .i64 a1_4, .int .i64 a1_5, .int .i64 a1_6]] w fun e w' => e = .returned (.bool r) ∧ Below w.heap.size w w' := by
 have hu29 := Try.underlying29
 have HB := Aside0.mk (Below.refl w.heap.size w)
 have H : ((cmp_Compare_int.f a0_2 a1_2).bind fun t121 => ((cmp_Compare_int.f a0_1 a1_1).bind fun t122 => ((cmp_Or_int.f k (([t121, t122] : List Int))).bind fun t126 => (some (decide (t126 < 0)))))) = some r := h
 clear h
 replace H := Option.bind_eq_some_iff.mp H
 obtain ⟨t121, A30, H⟩ := H
 replace H : ((cmp_Compare_int.f a0_1 a1_1).bind fun t122 => ((cmp_Or_int.f k (([t121, t122] : List Int))).bind fun t126 => (some (decide (t126 < 0))))) = some r := H
 have A3 := Aside0.mk A30
 clear A30
 replace H := Option.bind_eq_some_iff.mp H
 obtain ⟨t122, A40, H⟩ := H
 replace H : ((cmp_Or_int.f k (([t121, t122] : List Int))).bind fun t126 => (some (decide (t126 < 0)))) = some r := H
 have A4 := Aside0.mk A40
 clear A40
 obtain ⟨y123, hy123⟩ : ∃ y_ : List Int, y_ = (([t121, t122] : List Int)) := ⟨_, rfl⟩
 replace H : ((cmp_Or_int.f k y123).bind fun t126 => (some (decide (t126 < 0)))) = some r := by first | (rw [hy123]; with_reducible exact H) | (have H2_ := (Option.bind_some _ _).symm.trans H; rw [hy123]; with_reducible exact H2_) | (have H2_ := (Option.bind_some _ _).symm.trans H; with_reducible exact H2_) | with_reducible exact H | (rw [hy123]; exact H) | exact H
 have Ny123 := Aside0.mk hy123
 clear hy123
 replace H := Option.bind_eq_some_iff.mp H
 obtain ⟨t126, A50, H⟩ := H
 replace H : (some (decide (t126 < 0))) = some r := H
 have A5 := Aside0.mk A50
 clear A50
 obtain rfl := Option.some.inj H
 go_enter Try.func53, Try.ntmps53
 try go_wp2_with (first | ((with_reducible refine gate_dst (N := 2) rfl ?_); refine box_event ?hg (N := 2) ?hd (cs := #[.int .i64 a0_0, .int .i64 a0_1, .int .i64 a0_2, .int .i64 a0_3, .int .i64 a0_4, .int .i64 a0_5, .int .i64 a0_6]) (t := 29) ?hr ?_; (case hd => rfl); (case hg => rfl); (case hr => first | (go_simp; done) | (go_simp; rfl)); intro gb119 hg w6 hbox hb; have n0_ := Aside0.mk (below_step (hU HB.out) hb); have n1_ := Aside0.mk (hbox); have n2_ := Aside0.mk ((by rw [hg]; exact (below_size (hU HB.out)) : w.heap.size ≤ gb119)); have n3_ := Aside0.mk ((by rw [hg]; exact (below_size (hU HB.out)) : w.heap.size ≤ gb119)); clear HB; have HB := n0_; have BK119 := n1_; have GW119 := n2_; have GE119 := n3_; clear n0_ n1_ n2_ n3_; clear hb hbox hg) | ((with_reducible refine gate_dst (N := 3) rfl ?_); refine box_event ?hg (N := 3) ?hd (cs := #[.int .i64 a1_0, .int .i64 a1_1, .int .i64 a1_2, .int .i64 a1_3, .int .i64 a1_4, .int .i64 a1_5, .int .i64 a1_6]) (t := 29) ?hr ?_; (case hd => rfl); (case hg => rfl); (case hr => first | (go_simp; done) | (go_simp; rfl)); intro gb120 hg w7 hbox hb; have n0_ := Aside0.mk (blk_below (bU BK119.out) hb); have n1_ := Aside0.mk (below_step (hU HB.out) hb); have n2_ := Aside0.mk (hbox); have n3_ := Aside0.mk ((by rw [hg]; exact (below_size (hU HB.out)) : w.heap.size ≤ gb120)); have n4_ := Aside0.mk ((by rw [hg]; exact (below_size (hU HB.out)) : w.heap.size ≤ gb120)); have n5_ := Aside0.mk ((by rw [hg]; exact Nat.ne_of_lt (blk_lt (bU BK119.out)) : gb119 ≠ gb120)); have n6_ := Aside0.mk ((by rw [hg]; exact Nat.ne_of_gt (blk_lt (bU BK119.out)) : gb120 ≠ gb119)); clear BK119; clear HB; have BK119 := n0_; have HB := n1_; have BK120 := n2_; have GW120 := n3_; have GE120 := n4_; have NB119_120 := n5_; have NB120_119 := n6_; clear n0_ n1_ n2_ n3_ n4_ n5_ n6_; clear hb hbox hg))
 have n0_ := Aside0.mk (blk_drew BK119.out)
 have n1_ := Aside0.mk (blk_drew BK120.out)
 have n2_ := Aside0.mk (below_drew1 HB.out)
 clear BK119
 clear BK120
 clear HB
 have BK119 := n0_
 have BK120 := n1_
 have HB := n2_
 clear n0_ n1_ n2_
 refine start_ (n := 14) (S := fun w' => w'.cell? ⟨gb119, 0, none⟩ = some (.int .i64 a0_0) ∧ w'.cell? ⟨gb119, 1, none⟩ = some (.int .i64 a0_1) ∧ w'.cell? ⟨gb119, 2, none⟩ = some (.int .i64 a0_2) ∧ w'.cell? ⟨gb119, 3, none⟩ = some (.int .i64 a0_3) ∧ w'.cell? ⟨gb119, 4, none⟩ = some (.int .i64 a0_4) ∧ w'.cell? ⟨gb119, 5, none⟩ = some (.int .i64 a0_5) ∧ w'.cell? ⟨gb119, 6, none⟩ = some (.int .i64 a0_6) ∧ w'.cell? ⟨gb120, 0, none⟩ = some (.int .i64 a1_0) ∧ w'.cell? ⟨gb120, 1, none⟩ = some (.int .i64 a1_1) ∧ w'.cell? ⟨gb120, 2, none⟩ = some (.int .i64 a1_2) ∧ w'.cell? ⟨gb120, 3, none⟩ = some (.int .i64 a1_3) ∧ w'.cell? ⟨gb120, 4, none⟩ = some (.int .i64 a1_4) ∧ w'.cell? ⟨gb120, 5, none⟩ = some (.int .i64 a1_5) ∧ w'.cell? ⟨gb120, 6, none⟩ = some (.int .i64 a1_6)) (ds := []) #[false, false, false, false, false, false, false, false, false, false, false, false, false, false] (by kernel_rfl) rfl rfl ⟨(blk_cell BK119.out 0).trans rfl, (blk_cell BK119.out 1).trans rfl, (blk_cell BK119.out 2).trans rfl, (blk_cell BK119.out 3).trans rfl, (blk_cell BK119.out 4).trans rfl, (blk_cell BK119.out 5).trans rfl, (blk_cell BK119.out 6).trans rfl, (blk_cell BK120.out 0).trans rfl, (blk_cell BK120.out 1).trans rfl, (blk_cell BK120.out 2).trans rfl, (blk_cell BK120.out 3).trans rfl, (blk_cell BK120.out 4).trans rfl, (blk_cell BK120.out 5).trans rfl, (blk_cell BK120.out 6).trans rfl⟩ (fun hHeld => ?_); refine with_tabW symbol_Less.tab1 symbol_Less.bits1 (fun HT_ HW_ => ?_)
 generalize w7.drew = w8 at BK119 BK120 HB hHeld ⊢
 refine puA 0 5 (bs 14 1) ?_
 refine puA 2 7 (bs 14 5) ?_
 refine puA 5 10 (bs 14 37) ?_
 refine puA 7 12 (bs 14 165) ?_
 refine tkA 1 6 (bs 14 167) hHeld ?_
 refine tkA 3 8 (bs 14 175) hHeld ?_
 refine tkA 6 11 (bs 14 239) hHeld ?_
 refine tkA 8 13 (bs 14 495) hHeld ?_
 refine one_ (i := 4) (N := some 9) (bs 14 511) rfl rfl (one_of HT_.out (by kernel_rfl)) (by decide) (fun K hK => ?_)
 refine goes_ Try.func84 (by kernel_rfl) rfl #[.int .i64 a0_2, .int .i64 a1_2] (by rfl) rfl rfl (by (try simp only [List.map_toArray, List.map_cons, List.map_nil]); first | done | rfl | (simp only [List.length_drop, List.length_take]; rfl)) ?_
 with_reducible refine (cmp_Compare_int.calls a0_2 a1_2 t121 _ A3.out).mono ?_
 rintro e w' ⟨rfl, ⟨nd, rfl⟩⟩
 refine ⟨_, rfl, ?_⟩
 refine hK.out _ _ ⟨(blk_cell BK119.out 0).trans rfl, (blk_cell BK119.out 1).trans rfl, (blk_cell BK119.out 2).trans rfl, (blk_cell BK119.out 3).trans rfl, (blk_cell BK119.out 4).trans rfl, (blk_cell BK119.out 5).trans rfl, (blk_cell BK119.out 6).trans rfl, (blk_cell BK120.out 0).trans rfl, (blk_cell BK120.out 1).trans rfl, (blk_cell BK120.out 2).trans rfl, (blk_cell BK120.out 3).trans rfl, (blk_cell BK120.out 4).trans rfl, (blk_cell BK120.out 5).trans rfl, (blk_cell BK120.out 6).trans rfl⟩ (fun hHeld => ?_)
 clear hK K
 refine nmA 9 ?_
 refine one_ (i := 9) (N := some 14) (bs 14 1023) rfl rfl (one_of HT_.out (by kernel_rfl)) (by decide) (fun K hK => ?_)
 refine goes_ Try.func84 (by kernel_rfl) rfl #[.int .i64 a0_1, .int .i64 a1_1] (by rfl) rfl rfl (by (try simp only [List.map_toArray, List.map_cons, List.map_nil]); first | done | rfl | (simp only [List.length_drop, List.length_take]; rfl)) ?_
 with_reducible refine (cmp_Compare_int.calls a0_1 a1_1 t122 _ A4.out).mono ?_
 rintro e w' ⟨rfl, ⟨nd, rfl⟩⟩
 refine ⟨_, rfl, ?_⟩
 refine hK.out _ _ ⟨(blk_cell BK119.out 0).trans rfl, (blk_cell BK119.out 1).trans rfl, (blk_cell BK119.out 2).trans rfl, (blk_cell BK119.out 3).trans rfl, (blk_cell BK119.out 4).trans rfl, (blk_cell BK119.out 5).trans rfl, (blk_cell BK119.out 6).trans rfl, (blk_cell BK120.out 0).trans rfl, (blk_cell BK120.out 1).trans rfl, (blk_cell BK120.out 2).trans rfl, (blk_cell BK120.out 3).trans rfl, (blk_cell BK120.out 4).trans rfl, (blk_cell BK120.out 5).trans rfl, (blk_cell BK120.out 6).trans rfl⟩ (fun hHeld => ?_)
 clear hK K
 refine nmA 14 ?_
 refine one_ (i := 10) (N := some 15) (bs 14 2047) rfl rfl (one_of HT_.out (by kernel_rfl)) (by decide) (fun K hK => ?_)
 refine Kd.R_lit_step (Kd.int .i64) _ 3 ?hg (N := 15) ?hd (xs := ([t121, t122] : List Int)) (inner := [.int .i64 t121, .int .i64 t122]) (ok := fun _ => True) (okp := fun _ => True) ?hr ?hp (fun _ hk => hk) trivial (Below.refl _ _) (Nat.le_refl _) (by simp) ?_; (case hd => rfl); (case hg => rfl); (case hr => first | (go_simp; done) | (go_simp; rfl)); (case hp => exact (Reps.one (show Kd.M (Kd.int .i64) _ _ _ t121 [.int .i64 t121] from rfl) (Reps.one (show Kd.M (Kd.int .i64) _ _ _ t122 [.int .i64 t122] from rfl) (Reps.none _ _))))
 intro v124 w9 ho10 hb hg_ hnew_
 clear hg_ hnew_
 (first | rw [← Ny123.out] at ho10 | (simp only [Int.reduceToNat] at ho10; rw [← Ny123.out] at ho10))
 have n0_ := Aside0.mk (Kd.R_lower ho10 (below_size (hU HB.out)))
 have n1_ := Aside0.mk (blk_below (bU BK119.out) hb)
 have n2_ := Aside0.mk (blk_below (bU BK120.out) hb)
 have n3_ := Aside0.mk (below_step (hU HB.out) hb)
 clear BK119
 clear BK120
 clear HB
 have HO125 := n0_
 have BK119 := n1_
 have BK120 := n2_
 have HB := n3_
 clear n0_ n1_ n2_ n3_
 clear hb ho10
 obtain ⟨Ao11, co11, eo11⟩ := Kd.R_slice HO125.out
 (first | subst eo11 | (injection eo11 with f1_ f2_ f3_; have f4_ := f1_.symm; have f5_ := f3_.symm; clear f1_ f2_ f3_; subst f4_; subst f5_))
 refine hK.out _ _ ⟨(blk_cell BK119.out 0).trans rfl, (blk_cell BK119.out 1).trans rfl, (blk_cell BK119.out 2).trans rfl, (blk_cell BK119.out 3).trans rfl, (blk_cell BK119.out 4).trans rfl, (blk_cell BK119.out 5).trans rfl, (blk_cell BK119.out 6).trans rfl, (blk_cell BK120.out 0).trans rfl, (blk_cell BK120.out 1).trans rfl, (blk_cell BK120.out 2).trans rfl, (blk_cell BK120.out 3).trans rfl, (blk_cell BK120.out 4).trans rfl, (blk_cell BK120.out 5).trans rfl, (blk_cell BK120.out 6).trans rfl⟩ (fun hHeld => ?_)
 clear hK K
 refine nmA 15 ?_
 refine one_ (i := 11) (N := some 16) (bs 14 4095) rfl rfl (one_of HT_.out (by kernel_rfl)) (by decide) (fun K hK => ?_)
 refine goes_ Try.func83 (by kernel_rfl) rfl #[.slice Ao11 y123.length co11] (by rfl) rfl rfl (by (try simp only [List.map_toArray, List.map_cons, List.map_nil]); first | done | rfl | (simp only [List.length_drop, List.length_take]; rfl)) ?_
 with_reducible refine (cmp_Or_int.calls k _ _ y123 t126 _ ?side1 ?side2 A5.out).mono ?_
 (case side1 => repeat (first | exact (Kd.R_reads' HO125.out).2.2 | (with_reducible refine Kd.C_alloc ?_ _) | (with_reducible refine Kd.C_drewN ?_ _) | (with_reducible refine Kd.C_drew ?_)))
 (case side2 => exact (Kd.R_reads' HO125.out).2.1)
 rintro e w' ⟨rfl, ⟨nd, rfl⟩⟩
 refine ⟨_, rfl, ?_⟩
 refine hK.out _ _ ⟨(blk_cell BK119.out 0).trans rfl, (blk_cell BK119.out 1).trans rfl, (blk_cell BK119.out 2).trans rfl, (blk_cell BK119.out 3).trans rfl, (blk_cell BK119.out 4).trans rfl, (blk_cell BK119.out 5).trans rfl, (blk_cell BK119.out 6).trans rfl, (blk_cell BK120.out 0).trans rfl, (blk_cell BK120.out 1).trans rfl, (blk_cell BK120.out 2).trans rfl, (blk_cell BK120.out 3).trans rfl, (blk_cell BK120.out 4).trans rfl, (blk_cell BK120.out 5).trans rfl, (blk_cell BK120.out 6).trans rfl⟩ (fun hHeld => ?_)
 clear hK K
 refine nmA 16 ?_
 refine puA 12 17 (bs 14 8191) ?_
 refine puA 13 4 (bs 14 16383) ?_
 refine done_ (done_of HT_.out (by kernel_rfl)) ?_
 try go_wp2
 go_ret
 exact ⟨by first | rfl | (simp [errW_none, errW_some] <;> rfl) | (simp [*, errW_none, errW_some] <;> rfl), hU HB.out⟩

/-! ### staff_end: function 54 -/
def staff_end.f (a0_0 : Int) (a0_1 : Int) (a0_2 : Int) (a0_3 : Int) (a0_4 : Int) (a0_5 : Int) (a0_6 : Int) : Option (Int) := some (wrap64 (a0_2 + a0_3))
set_option maxHeartbeats 8000000 in
set_option maxRecDepth 100000 in
theorem staff_end.calls (a0_0 : Int) (a0_1 : Int) (a0_2 : Int) (a0_3 : Int) (a0_4 : Int) (a0_5 : Int) (a0_6 : Int) (r : Int) (w : World) (h : staff_end.f a0_0 a0_1 a0_2 a0_3 a0_4 a0_5 a0_6 = some r) :
  Calls Try.prog 54 #[.agg #[.int .i64 a0_0, .int .i64 a0_1, .int .i64 a0_2, .int .i64 a0_3, .int .i64 a0_4, .int .i64 a0_5, .int .i64 a0_6]] w fun e w' => e = .returned (.int .i64 r) ∧ Below w.heap.size w w' := by
 have hu29 := Try.underlying29
 have HB := Aside0.mk (Below.refl w.heap.size w)
 have H : (some (wrap64 (a0_2 + a0_3))) = some r := h
 clear h
 obtain rfl := Option.some.inj H
 go_enter Try.func54, Try.ntmps54
 go_wp2_with (first | ((with_reducible refine gate_dst (N := 1) rfl ?_); refine box_event ?hg (N := 1) ?hd (cs := #[.int .i64 a0_0, .int .i64 a0_1, .int .i64 a0_2, .int .i64 a0_3, .int .i64 a0_4, .int .i64 a0_5, .int .i64 a0_6]) (t := 29) ?hr ?_; (case hd => rfl); (case hg => rfl); (case hr => first | (go_simp; done) | (go_simp; rfl)); intro gb127 hg w2 hbox hb; have n0_ := Aside0.mk (below_step (hU HB.out) hb); have n1_ := Aside0.mk (hbox); have n2_ := Aside0.mk ((by rw [hg]; exact (below_size (hU HB.out)) : w.heap.size ≤ gb127)); have n3_ := Aside0.mk ((by rw [hg]; exact (below_size (hU HB.out)) : w.heap.size ≤ gb127)); clear HB; have HB := n0_; have BK127 := n1_; have GW127 := n2_; have GE127 := n3_; clear n0_ n1_ n2_ n3_; clear hb hbox hg; have hcz3_0 := blk_cell BK127.out; have hfz3_0 := blk_frozen BK127.out))
 go_ret
 exact ⟨by first | rfl | (simp [errW_none, errW_some] <;> rfl) | (simp [*, errW_none, errW_some] <;> rfl), hU HB.out⟩

end Go.Proofs.Ytdilndbanhianaa.P
end
section
set_option linter.unusedVariables false
set_option linter.unusedSimpArgs false
namespace Go.Proofs.Ytdilndbanhianaa.P
open Go.RowKit Go.Proofs.YtdilndbanhianaaW.PrintWords Go.Proofs.YtdilndbanhianaaW.PrintLast Go.Proofs.YtdilndbanhianaaW.PrintMore
theorem wrap_in (x : Int) (h0 : -9223372036854775808 ≤ x) (h1 : x ≤ 9223372036854775807) : wrap64 x = x := by unfold wrap64; omega
def colP (k c : Int) : Prop := if k = 1 ∨ k = 2 then c = 0 ∨ c = 1 else if k = 3 then 2 ≤ c ∧ c < 8 else c = 8
instance (k c : Int) : Decidable (colP k c) := by unfold colP; infer_instance
def sayC (k c d v m : Int) : Int :=
  if k = 1 then (if 0 ≤ d ∧ d ≤ 8 ∧ -1 ≤ v ∧ v ≤ 1 then (if m = 0 then 0 else 2) else 1)
  else if k = 2 then (if d = 0 ∧ v = 0 ∧ m = 0 then 0 else 2)
  else if k = 3 then (ofP (c - 2) d v m).2.2.2
  else if k = 4 then (if d = 0 ∧ v = 0 then (if m < -16 ∨ 16 < m ∨ m = 0 then 1 else 0) else 2) else 0
/-- The error of Check. -/
def chkP (k c b l d v m : Int) : Int :=
  if k < 1 ∨ 4 < k then 9
  else if ¬ colP k c then 16
  else if b < 0 ∨ 8191 < b ∨ l < 1 ∨ 8192 - b < l then 1
  else sayC k c d v m
theorem says_eq (j : Nat) (k c b l d v m : Int) (hc : 0 ≤ c ∧ c ≤ 8) : symbol_says.f (j + 1) k c b l d v m = some (sayC k c d v m) := by
  unfold symbol_says.f sayC
  rw [wrap_in (c - 2) (by omega) (by omega)]
  by_cases k1 : k = 1
  · rw [if_pos k1, if_pos k1]
    have e : dir_Check.f d v = some (if 0 ≤ d ∧ d ≤ 8 ∧ -1 ≤ v ∧ v ≤ 1 then 0 else 1) := aim_Of.dcheck_eq d v
    rw [e, Option.bind_some]
    by_cases h : 0 ≤ d ∧ d ≤ 8 ∧ -1 ≤ v ∧ v ≤ 1
    · rw [if_pos h, if_pos h, if_pos rfl]; split <;> rfl
    · rw [if_neg h, if_neg h, if_neg (by decide)]
  · rw [if_neg k1, if_neg k1]
    by_cases k2 : k = 2
    · rw [if_pos k2, if_pos k2]
      by_cases h : d = 0 <;> by_cases h' : v = 0 <;> by_cases h'' : m = 0 <;> simp [h, h', h'']
    · rw [if_neg k2, if_neg k2]
      by_cases k3 : k = 3
      · rw [if_pos k3, if_pos k3]
        simp only [aim_Of.f, Option.bind_some]
      · rw [if_neg k3, if_neg k3]
        simp only [symbol_says.j0]
        by_cases k4 : k = 4 <;> by_cases h : d = 0 <;> by_cases h' : v = 0 <;> simp [k4, h, h']
        by_cases a : m < -16 <;> by_cases a' : 16 < m <;> by_cases a'' : m = 0 <;> simp [a, a', a'']
theorem place_eq (k c b l d v m : Int) (h : ¬ (k < 1 ∨ 4 < k)) : symbol_place.f k c b l d v m = some (decide (colP k c)) := by
  unfold symbol_place.f symbol_support.f colP
  grind
theorem symCheck_j (j : Nat) (x : Bool) (k c b l d v m : Int) (hx : x = false) (h1 : ¬ (k < 1 ∨ 4 < k)) : symbol_Check.j0 (j + 2) x k c b l d v m = some (chkP k c b l d v m) := by
  subst hx
  simp only [symbol_Check.j0, chkP, if_neg h1]
  rw [place_eq k c b l d v m h1, if_neg (by decide)]
  simp only [Option.bind_some, decide_eq_true_eq]
  by_cases h2 : colP k c
  · have hc : 0 ≤ c ∧ c ≤ 8 := by unfold colP at h2; grind
    rw [if_pos h2, if_neg (not_not_intro h2), says_eq j k c b l d v m hc]
    by_cases h3 : b < 0 ∨ 8191 < b
    · rw [if_pos (by omega : b < 0 ∨ 8191 < b ∨ l < 1 ∨ 8192 - b < l)]
      rcases h3 with h3 | h3
      · rw [if_pos h3]
      · rw [if_neg (by omega), if_pos (by omega)]
    · rw [wrap_in (8192 - b) (by omega) (by omega), if_neg (by omega), if_neg (by omega)]
      by_cases h4 : l < 1 ∨ 8192 - b < l
      · rw [if_pos (by omega : b < 0 ∨ 8191 < b ∨ l < 1 ∨ 8192 - b < l)]
        rcases h4 with h4 | h4
        · rw [if_pos h4]
        · by_cases h5 : l < 1
          · rw [if_pos h5]
          · rw [if_neg h5, if_pos (by omega)]
      · rw [if_neg (by omega), if_neg (by omega), if_neg (by omega : ¬ (b < 0 ∨ 8191 < b ∨ l < 1 ∨ 8192 - b < l))]
        rfl
  · rw [if_neg h2, if_pos h2]
theorem symCheck_eq (j : Nat) (k c b l d v m : Int) : symbol_Check.f (j + 2) k c b l d v m = some (chkP k c b l d v m) := by
  unfold symbol_Check.f
  by_cases h1 : k < 1 ∨ 4 < k
  · have e : chkP k c b l d v m = 9 := by rw [chkP, if_pos h1]
    rw [e]
    rcases h1 with h1 | h1
    · rw [if_pos h1]; simp [symbol_Check.j0]
    · rw [if_neg (by omega)]; simp [symbol_Check.j0, h1]
  · rw [if_neg (by omega)]
    exact symCheck_j j _ k c b l d v m (by simp; omega) h1
end Go.Proofs.Ytdilndbanhianaa.P
end
section
set_option linter.unusedVariables false
set_option linter.unusedSimpArgs false
namespace Go.Proofs.Ytdilndbanhianaa.P
open Go.RowKit Go.Proofs.YtdilndbanhianaaW.PrintWords Go.Proofs.YtdilndbanhianaaW.PrintLast Go.Proofs.YtdilndbanhianaaW.PrintMore
def lessB (b c b' c' : Int) : Bool := decide (b < b' ∨ b = b' ∧ c < c')
theorem symLess_eq (j : Nat) (a0 a1 a2 a3 a4 a5 a6 b0 b1 b2 b3 b4 b5 b6 : Int) : symbol_Less.f (j + 3) a0 a1 a2 a3 a4 a5 a6 b0 b1 b2 b3 b4 b5 b6 = some (lessB a2 a1 b2 b1) := by
  unfold symbol_Less.f cmp_Compare_int.f cmp_isNaN_int.f cmp_Or_int.f lessB
  simp only [bne_self_eq_false, Option.bind_some, Bool.false_eq_true, if_false]
  by_cases h1 : a2 < b2
  · by_cases g : a1 < b1
    · simp [h1, g, cmp_Or_int.l0, rd]
    · by_cases g2 : a1 > b1 <;> simp [h1, g, g2, cmp_Or_int.l0, rd]
  · by_cases h2 : a2 > b2
    · have e : ¬ (a2 = b2) := by omega
      by_cases g : a1 < b1
      · simp [h1, h2, g, e, cmp_Or_int.l0, rd]
      · by_cases g2 : a1 > b1 <;> simp [h1, h2, g, g2, e, cmp_Or_int.l0, rd]
    · have e : a2 = b2 := by omega
      subst e
      by_cases h3 : a1 < b1
      · simp [h3, cmp_Or_int.l0, rd, wrap64]
      · by_cases h4 : a1 > b1
        · simp [h3, h4, cmp_Or_int.l0, rd, wrap64]
        · simp [h3, h4, cmp_Or_int.l0, rd, wrap64]
/-- The error of a symbol; whether one is before another; where one ends. -/
def chkO (s : S29) : Int := chkP s.f0 s.f1 s.f2 s.f3 s.f4 s.f5 s.f6
def ltS (a b : S29) : Bool := lessB a.f2 a.f1 b.f2 b.f1
def endS (s : S29) : Int := s.f2 + s.f3
def chk1 : List S29 → Int
  | [] => 0
  | s :: l => if chkO s = 0 then chk1 l else chkO s
def chk2 : S29 → List S29 → Bool
  | _, [] => true
  | a, b :: l => ltS a b && chk2 b l
def ordS : List S29 → Bool
  | [] => true
  | a :: l => chk2 a l
def chk3 (n : Int) : List Int → List S29 → Int
  | _, [] => 0
  | E, s :: l => if n < endS s then 1 else if s.f2 < E.getD s.f1.toNat 0 then 17 else chk3 n (E.set s.f1.toNat (endS s)) l
/-- The error of Check. -/
def chkS (l : List S29) (n : Int) : Int :=
  if n < 1 ∨ 8192 < n then 1
  else if 256 < l.length then 3
  else if ¬ chk1 l = 0 then chk1 l
  else if ordS l = false then 5
  else chk3 n [0, 0, 0, 0, 0, 0, 0, 0, 0] l
theorem rd29_at {l : List S29} {i : Nat} (h : i < l.length) : rd_T29 l (i : Int) = l[i] := by unfold rd_T29; rw [Int.toNat_natCast]; simp [List.getD, h]
theorem chk1_all : ∀ l : List S29, chk1 l = 0 → ∀ s ∈ l, chkO s = 0
  | [], _, s, hs => by simp at hs
  | x :: l, h, s, hs => by
    simp only [chk1] at h
    by_cases hx : chkO x = 0
    · rw [if_pos hx] at h
      rcases List.mem_cons.mp hs with rfl | hs
      · exact hx
      · exact chk1_all l h s hs
    · rw [if_neg hx] at h; exact absurd h hx
theorem chkO_in (s : S29) (h : chkO s = 0) : 0 ≤ s.f1 ∧ s.f1 ≤ 8 ∧ 0 ≤ s.f2 ∧ 1 ≤ s.f3 ∧ s.f2 + s.f3 ≤ 8192 := by
  unfold chkO chkP at h
  by_cases h1 : s.f0 < 1 ∨ 4 < s.f0
  · rw [if_pos h1] at h; cases h
  · rw [if_neg h1] at h
    by_cases h2 : colP s.f0 s.f1
    · rw [if_neg (not_not_intro h2)] at h
      by_cases h3 : s.f2 < 0 ∨ 8191 < s.f2 ∨ s.f3 < 1 ∨ 8192 - s.f2 < s.f3
      · rw [if_pos h3] at h; cases h
      · have hc : 0 ≤ s.f1 ∧ s.f1 ≤ 8 := by unfold colP at h2; grind
        omega
    · rw [if_pos h2] at h; cases h
theorem drop_cons29 {l : List S29} {i : Nat} (h : i < l.length) : l.drop i = l[i] :: l.drop (i + 1) := List.drop_eq_getElem_cons h
end Go.Proofs.Ytdilndbanhianaa.P
end
section
namespace Go.Proofs.Ytdilndbanhianaa.P
open Go.RowKit Go.Proofs.YtdilndbanhianaaW.PrintWords Go.Proofs.YtdilndbanhianaaW.PrintLast Go.Proofs.YtdilndbanhianaaW.PrintMore
set_option linter.unusedVariables false
set_option linter.unusedSimpArgs false

def dancestudioref18_Of.f (a d l b : Int) : Option (Int × Int × Int × Int) := some (ofP a d l b)
theorem dancestudioref18_Of.known_eq (a : Int) : dancestudioref18_limbed.f a = some (knB a) := by
  unfold dancestudioref18_limbed.f knB
  by_cases h : 0 ≤ a <;> simp [h]
theorem dancestudioref18_Of.dcheck_eq (d l : Int) : dancestudioref16_Check.f d l = some (if 0 ≤ d ∧ d ≤ 8 ∧ -1 ≤ l ∧ l ≤ 1 then 0 else 1) := by
  unfold dancestudioref16_Check.f dancestudioref16_Is.f
  repeat' split
  all_goals (simp at *; try omega)
theorem dancestudioref18_Of.eighth_eq (d : Int) (h : 0 ≤ d ∧ d ≤ 8) (h0 : d ≠ 0) : dancestudioref16_Eighth.f d = some (wrap64 (d - 1), 0) := by
  unfold dancestudioref16_Eighth.f dancestudioref16_Is.f
  simp [h.1, h.2, h0]
set_option maxHeartbeats 1000000 in
set_option maxRecDepth 100000 in
theorem dancestudioref18_Of.calls (a0 : Int) (a1_0 : Int) (a1_1 : Int) (a1_2 : Int) (r1 : Int) (r2 : Int) (r3 : Int) (r4 : Int) (w : World) (h : dancestudioref18_Of.f a0 a1_0 a1_1 a1_2 = some (r1, r2, r3, r4)) :
    Calls Try.prog 87 #[.int .i64 a0, .agg #[.int .i64 a1_0, .int .i64 a1_1, .int .i64 a1_2]] w fun e w' => e = .returned (.tuple #[.agg #[.int .i64 r1, .int .i64 r2, .int .i64 r3], .int .i64 r4]) ∧ Below w.heap.size w w' := by
  have hu44 := Try.underlying98
  have hu32 := Try.underlying102
  have H := Aside0.mk (Option.some.inj h).symm
  clear h
  obtain ⟨c, hc⟩ : ∃ c : Int, c = if 0 ≤ a1_0 ∧ a1_0 ≤ 8 ∧ -1 ≤ a1_1 ∧ a1_1 ≤ 1 then 0 else 1 := ⟨_, rfl⟩
  have HC := Aside0.mk hc
  have HD := Aside0.mk (hc ▸ dancestudioref18_Of.dcheck_eq a1_0 a1_1)
  clear hc
  go_enter Try.func87, Try.ntmps87
  go_wp2_with (first | (go_at_call 99; refine (dancestudioref18_limbed.calls _ (knB _) _ (dancestudioref18_Of.known_eq _)).mono ?_; rintro e w' ⟨rfl, ⟨nd, rfl⟩⟩) | (go_at_call 86; refine (dancestudioref16_Check.calls _ _ c _ HD.out).mono ?_; rintro e w' ⟨rfl, ⟨nd, rfl⟩⟩) | (go_at_call 100; refine (dancestudioref16_Eighth.calls _ (wrap64 (a1_0 - 1)) 0 _ (dancestudioref18_Of.eighth_eq _ (by have hc := HC.out; go_light; split at hc <;> simp_all) (by go_light; simp_all))).mono ?_; rintro e w' ⟨rfl, ⟨nd, rfl⟩⟩))
  all_goals (refine bodyPost_ret (by simp [results, Try.results87, go_sem]; rfl) rfl ⟨?_, by repeat (first | exact Below.refl _ _ | apply below_alloc | apply pw_below_drewN | apply below_drew1 | refine below_set ?_ (by simp))⟩; go_light)
  all_goals
    have h := H.out
    have hc := HC.out
    clear H HC HD hu44 hu32
    unfold ofP at h
    unfold knB at *
    (repeat' split at h) <;> (repeat' split at hc) <;> first | (simp_all; done) | (simp_all [wrap64]; done) | (exfalso; simp_all; omega) | (exfalso; simp at *; omega)
end Go.Proofs.Ytdilndbanhianaa.P
end
section
namespace Go.Proofs.Ytdilndbanhianaa.P
open Go.RowKit Go.Proofs.YtdilndbanhianaaW.PrintWords Go.Proofs.YtdilndbanhianaaW.PrintLast Go.Proofs.YtdilndbanhianaaW.PrintMore
attribute [local go_sem] max2_int min2_int max_two min_two max_three min_three max_four min_four   -- for this text's walks alone
set_option linter.unusedVariables false
set_option linter.unusedSimpArgs false

/-! ### dancestudioref23_Check: function 55 -/
mutual
def dancestudioref23_Check.j0 : Nat → Bool → Int → Int → Int → Int → Int → Int → Int → Option (Int)
 | 0, _, _, _, _, _, _, _, _ => none
 | k + 1, x13, x131000, x131001, x131002, x131003, x131004, x131005, x131006 => if x13 = true then (some 9) else ((dancestudioref23_column.f k x131000 x131001).bind fun t131 => (if t131 = true then (if x131002 < 0 then (dancestudioref23_Check.j1 k true x131000 x131001 x131002 x131003 x131004 x131005 x131006) else (if x131002 > 8191 then (dancestudioref23_Check.j1 k true x131000 x131001 x131002 x131003 x131004 x131005 x131006) else (if x131003 < 1 then (dancestudioref23_Check.j1 k true x131000 x131001 x131002 x131003 x131004 x131005 x131006) else (dancestudioref23_Check.j1 k (decide (x131003 > (wrap64 (8192 - x131002)))) x131000 x131001 x131002 x131003 x131004 x131005 x131006)))) else (some 16)))
def dancestudioref23_Check.j1 : Nat → Bool → Int → Int → Int → Int → Int → Int → Int → Option (Int)
 | 0, _, _, _, _, _, _, _, _ => none
 | k + 1, x40, x131000, x131001, x131002, x131003, x131004, x131005, x131006 => if x40 = true then (some 1) else (if x131000 = 1 then ((dancestudioref16_Check.f x131004 x131005).bind fun t132 => (if t132 = 0 then (if x131006 = 0 then (some 0) else (some 2)) else (some t132))) else (if x131000 = 3 then ((dancestudioref18_Of.f (wrap64 (x131001 - 2)) x131004 x131005 x131006).bind fun bt133 => (some bt133.2.2.2)) else (if x131004 = 0 then (dancestudioref23_Check.j2 k (x131005 != 0) x131000 x131001 x131002 x131003 x131004 x131005 x131006) else (dancestudioref23_Check.j2 k true x131000 x131001 x131002 x131003 x131004 x131005 x131006))))
def dancestudioref23_Check.j2 : Nat → Bool → Int → Int → Int → Int → Int → Int → Int → Option (Int)
 | 0, _, _, _, _, _, _, _, _ => none
 | k + 1, x80, x131000, x131001, x131002, x131003, x131004, x131005, x131006 => if x80 = true then (some 2) else (if x131000 = 2 then (if x131006 = 0 then (some 0) else (some 2)) else (if x131006 < (-16) then (some 1) else (if x131006 > 16 then (some 1) else (if x131006 = 0 then (some 1) else (some 0)))))
end
def dancestudioref23_Check.f (k : Nat) (a0_0 : Int) (a0_1 : Int) (a0_2 : Int) (a0_3 : Int) (a0_4 : Int) (a0_5 : Int) (a0_6 : Int) : Option (Int) := if a0_0 < 1 then (dancestudioref23_Check.j0 k true a0_0 a0_1 a0_2 a0_3 a0_4 a0_5 a0_6) else (dancestudioref23_Check.j0 k (decide (a0_0 > 4)) a0_0 a0_1 a0_2 a0_3 a0_4 a0_5 a0_6)
theorem dancestudioref23_Check.mono_l : ∀ k, (∀ y0 y1 y2 y3 y4 y5 y6 y7, LeO (dancestudioref23_Check.j0 k y0 y1 y2 y3 y4 y5 y6 y7) (dancestudioref23_Check.j0 (k + 1) y0 y1 y2 y3 y4 y5 y6 y7)) ∧ (∀ y0 y1 y2 y3 y4 y5 y6 y7, LeO (dancestudioref23_Check.j1 k y0 y1 y2 y3 y4 y5 y6 y7) (dancestudioref23_Check.j1 (k + 1) y0 y1 y2 y3 y4 y5 y6 y7)) ∧ (∀ y0 y1 y2 y3 y4 y5 y6 y7, LeO (dancestudioref23_Check.j2 k y0 y1 y2 y3 y4 y5 y6 y7) (dancestudioref23_Check.j2 (k + 1) y0 y1 y2 y3 y4 y5 y6 y7))
 | 0 => ⟨fun _ _ _ _ _ _ _ _ r h => by simp [dancestudioref23_Check.j0] at h, fun _ _ _ _ _ _ _ _ r h => by simp [dancestudioref23_Check.j1] at h, fun _ _ _ _ _ _ _ _ r h => by simp [dancestudioref23_Check.j2] at h⟩
 | k + 1 => by
  obtain ⟨ih0, ih1, ih2⟩ := dancestudioref23_Check.mono_l k
  refine ⟨?_, ?_, ?_⟩
  ·intro y0 y1 y2 y3 y4 y5 y6 y7
   unfold dancestudioref23_Check.j0
   repeat' first
   | (with_reducible exact ih0 _ _ _ _ _ _ _ _)
   | (with_reducible exact ih1 _ _ _ _ _ _ _ _)
   | (with_reducible exact ih2 _ _ _ _ _ _ _ _)
   | (with_reducible exact dancestudioref23_column.mono _ _ _)
   | (with_reducible exact LeO.refl _)
   | (with_reducible exact LeO.none _)
   | (with_reducible refine LeO.ite ?_ ?_)
   | (with_reducible refine LeO.bind ?_ (fun _ => ?_))
   | exact ih0 _ _ _ _ _ _ _ _
   | exact ih1 _ _ _ _ _ _ _ _
   | exact ih2 _ _ _ _ _ _ _ _
   | exact dancestudioref23_column.mono _ _ _
   | exact LeO.none _
   | refine LeO.ite ?_ ?_
   | refine LeO.bind ?_ (fun _ => ?_)
  ·intro y0 y1 y2 y3 y4 y5 y6 y7
   unfold dancestudioref23_Check.j1
   repeat' first
   | (with_reducible exact ih0 _ _ _ _ _ _ _ _)
   | (with_reducible exact ih1 _ _ _ _ _ _ _ _)
   | (with_reducible exact ih2 _ _ _ _ _ _ _ _)
   | (with_reducible exact dancestudioref23_column.mono _ _ _)
   | (with_reducible exact LeO.refl _)
   | (with_reducible exact LeO.none _)
   | (with_reducible refine LeO.ite ?_ ?_)
   | (with_reducible refine LeO.bind ?_ (fun _ => ?_))
   | exact ih0 _ _ _ _ _ _ _ _
   | exact ih1 _ _ _ _ _ _ _ _
   | exact ih2 _ _ _ _ _ _ _ _
   | exact dancestudioref23_column.mono _ _ _
   | exact LeO.none _
   | refine LeO.ite ?_ ?_
   | refine LeO.bind ?_ (fun _ => ?_)
  ·intro y0 y1 y2 y3 y4 y5 y6 y7
   unfold dancestudioref23_Check.j2
   repeat' first
   | (with_reducible exact ih0 _ _ _ _ _ _ _ _)
   | (with_reducible exact ih1 _ _ _ _ _ _ _ _)
   | (with_reducible exact ih2 _ _ _ _ _ _ _ _)
   | (with_reducible exact dancestudioref23_column.mono _ _ _)
   | (with_reducible exact LeO.refl _)
   | (with_reducible exact LeO.none _)
   | (with_reducible refine LeO.ite ?_ ?_)
   | (with_reducible refine LeO.bind ?_ (fun _ => ?_))
   | exact ih0 _ _ _ _ _ _ _ _
   | exact ih1 _ _ _ _ _ _ _ _
   | exact ih2 _ _ _ _ _ _ _ _
   | exact dancestudioref23_column.mono _ _ _
   | exact LeO.none _
   | refine LeO.ite ?_ ?_
   | refine LeO.bind ?_ (fun _ => ?_)
theorem dancestudioref23_Check.mono : ∀ a0 a1 a2 a3 a4 a5 a6 k, LeO (dancestudioref23_Check.f k a0 a1 a2 a3 a4 a5 a6) (dancestudioref23_Check.f (k + 1) a0 a1 a2 a3 a4 a5 a6) := by
 intro a0 a1 a2 a3 a4 a5 a6 k
 obtain ⟨ih0, ih1, ih2⟩ := dancestudioref23_Check.mono_l k
 unfold dancestudioref23_Check.f
 repeat' first
   | (with_reducible exact ih0 _ _ _ _ _ _ _ _)
   | (with_reducible exact ih1 _ _ _ _ _ _ _ _)
   | (with_reducible exact ih2 _ _ _ _ _ _ _ _)
   | (with_reducible exact dancestudioref23_column.mono _ _ _)
   | (with_reducible exact LeO.refl _)
   | (with_reducible exact LeO.none _)
   | (with_reducible refine LeO.ite ?_ ?_)
   | (with_reducible refine LeO.bind ?_ (fun _ => ?_))
   | exact ih0 _ _ _ _ _ _ _ _
   | exact ih1 _ _ _ _ _ _ _ _
   | exact ih2 _ _ _ _ _ _ _ _
   | exact dancestudioref23_column.mono _ _ _
   | exact LeO.none _
   | refine LeO.ite ?_ ?_
   | refine LeO.bind ?_ (fun _ => ?_)
set_option maxHeartbeats 8000000 in
set_option maxRecDepth 100000 in
theorem dancestudioref23_Check.calls (k : Nat) (a0_0 : Int) (a0_1 : Int) (a0_2 : Int) (a0_3 : Int) (a0_4 : Int) (a0_5 : Int) (a0_6 : Int) (r : Int) (w : World) (h : dancestudioref23_Check.f k a0_0 a0_1 a0_2 a0_3 a0_4 a0_5 a0_6 = some r) :
  Calls Try.prog 55 #[.agg #[.int .i64 a0_0, .int .i64 a0_1, .int .i64 a0_2, .int .i64 a0_3, .int .i64 a0_4, .int .i64 a0_5, .int .i64 a0_6]] w fun e w' => e = .returned (.int .i64 r) ∧ Below w.heap.size w w' := by
 have hu29 := Try.underlying29
 have hu102 := Try.underlying102
 have hu98 := Try.underlying98
 have HB := Aside0.mk (Below.refl w.heap.size w)
 have H : (if a0_0 < 1 then (dancestudioref23_Check.j0 k true a0_0 a0_1 a0_2 a0_3 a0_4 a0_5 a0_6) else (dancestudioref23_Check.j0 k (decide (a0_0 > 4)) a0_0 a0_1 a0_2 a0_3 a0_4 a0_5 a0_6)) = some r := h
 clear h
 have HC2 := Aside0.mk H
 clear H
 go_enter Try.func55, Try.ntmps55
 go_upto_region 1 with (first | ((with_reducible refine gate_dst (N := 1) rfl ?_); refine box_event ?hg (N := 1) ?hd (cs := #[.int .i64 a0_0, .int .i64 a0_1, .int .i64 a0_2, .int .i64 a0_3, .int .i64 a0_4, .int .i64 a0_5, .int .i64 a0_6]) (t := 29) ?hr ?_; (case hd => rfl); (case hg => rfl); (case hr => first | (go_simp; done) | (go_simp; rfl)); intro gb130 hg w3 hbox hb; have n0_ := Aside0.mk (below_step (hU HB.out) hb); have n1_ := Aside0.mk (hbox); have n2_ := Aside0.mk ((by rw [hg]; exact (below_size (hU HB.out)) : w.heap.size ≤ gb130)); have n3_ := Aside0.mk ((by rw [hg]; exact (below_size (hU HB.out)) : w.heap.size ≤ gb130)); clear HB; have HB := n0_; have BK130 := n1_; have GW130 := n2_; have GE130 := n3_; clear n0_ n1_ n2_ n3_; clear hb hbox hg))
 (try simp only [Act.put, List.setIfInBounds_toArray, List.set_cons_zero, List.set_cons_succ])
 go_cut [13] (fun v13 wc => ∃ (kq : Nat) (x13_1 : Bool), v13 = .bool x13_1 ∧ Aside0 (dancestudioref23_Check.j0 kq x13_1 a0_0 a0_1 a0_2 a0_3 a0_4 a0_5 a0_6 = some r) ∧ Aside0 (kq ≤ k) ∧ Aside0 (wc.heap[gb130]? = some (.cells #[.int .i64 a0_0, .int .i64 a0_1, .int .i64 a0_2, .int .i64 a0_3, .int .i64 a0_4, .int .i64 a0_5, .int .i64 a0_6] 29 (0, 0))) ∧ Aside0 (Below w.heap.size w wc))
 case first =>
  have H := HC2.out
  clear HC2
  by_cases c4 : a0_0 < 1
  ·rw [if_pos c4] at H
   have c4b0 : decide (a0_0 < 1) = true := decide_eq_true c4
   clear c4
   (first | rw [c4b0] | (simp only [i64_w, i32_w]; rw [c4b0]) | skip)
   have H' := Aside0.mk H
   clear H
   have hcz5_0 := blk_cell BK130.out
   have hfz5_0 := blk_frozen BK130.out
   go_wp2
   go_meet
   case rel => exact ⟨_, (true), (by first | rfl | (simp; done) | (simp [*]; done)), H', ⟨by first | omega | exact Nat.le_refl _⟩, ⟨by (with_reducible repeat (first | refine blk_drewN ?_ _ | refine blk_drew ?_ | refine blk_alloc ?_ _)); exact BK130.out⟩, ⟨hU HB.out⟩⟩
  ·rw [if_neg c4] at H
   have c4b0 : decide (a0_0 < 1) = false := decide_eq_false c4
   clear c4
   (first | rw [c4b0] | (simp only [i64_w, i32_w]; rw [c4b0]) | skip)
   have H' := Aside0.mk H
   clear H
   have hcz6_0 := blk_cell BK130.out
   have hfz6_0 := blk_frozen BK130.out
   go_wp2
   go_meet
   case rel => exact ⟨_, (decide (a0_0 > 4)), (by first | rfl | (simp; done) | (simp [*]; done)), H', ⟨by first | omega | exact Nat.le_refl _⟩, ⟨by (with_reducible repeat (first | refine blk_drewN ?_ _ | refine blk_drew ?_ | refine blk_alloc ?_ _)); exact BK130.out⟩, ⟨hU HB.out⟩⟩
 case rest =>
  clear HC2
  try clear p2
  try clear c4
  try clear c4b0
  try clear c5
  try clear hcz5_0
  try clear hcz5_1
  try clear hcz5_2
  try clear hcz5_3
  try clear hcz5_4
  try clear hcz5_5
  try clear hcz5_6
  try clear hcz6_0
  try clear hcz6_1
  try clear hcz6_2
  try clear hcz6_3
  try clear hcz6_4
  try clear hcz6_5
  try clear hcz6_6
  try clear hfz5_0
  try clear hfz5_1
  try clear hfz5_2
  try clear hfz5_3
  try clear hfz5_4
  try clear hfz5_5
  try clear hfz5_6
  try clear hfz6_0
  try clear hfz6_1
  try clear hfz6_2
  try clear hfz6_3
  try clear hfz6_4
  try clear hfz6_5
  try clear hfz6_6
  obtain ⟨kq, x13_1, rfl, HA, HJ1, BK130, HB⟩ := hcut
  cases kq with
  | zero => exact absurd HA.out (by simp [dancestudioref23_Check.j0])
  | succ kj1 =>
   have H := HA.out
   clear HA
   simp only [dancestudioref23_Check.j0] at H
   by_cases c7 : x13_1 = true
   ·subst c7
    have H1 : (some 9) = some r := by rw [if_pos rfl] at H; exact H
    clear H
    have H := H1
    clear H1
    obtain rfl := Option.some.inj H
    go_wp2
    go_ret
    exact ⟨by first | rfl | (simp [errW_none, errW_some] <;> rfl) | (simp [*, errW_none, errW_some] <;> rfl), hU HB.out⟩
   ·replace c7 := Bool.eq_false_iff.mpr c7
    subst c7
    rw [if_neg (show ¬ (false = true) by decide)] at H
    replace H := Option.bind_eq_some_iff.mp H
    obtain ⟨t131, A80, H⟩ := H
    try dsimp only at H
    have A8 := Aside0.mk A80
    clear A80
    by_cases c9 : t131 = true
    ·subst c9
     rw [if_pos rfl] at H
     have HC10 := Aside0.mk H
     clear H
     have hcz11_0 := blk_cell BK130.out
     have hfz11_0 := blk_frozen BK130.out
     go_upto_region 5 with (first | ((with_reducible refine gate_callee (f := 85) rfl ?_); refine goesL_ (some 18) rfl rfl Try.func85 (by kernel_rfl) rfl #[.int .i64 a0_0, .int .i64 a0_1] rfl (by (try simp only [List.map_toArray, List.map_cons, List.map_nil]); first | done | rfl | (simp only [List.length_drop, List.length_take]; rfl)) ?_; (with_reducible refine (dancestudioref23_column.calls kj1 a0_0 a0_1 true _ A8.out).mono ?_); rintro e w' ⟨rfl, ⟨nd, rfl⟩⟩; refine ⟨_, rfl, ?_⟩))
     (try simp only [Act.put, List.setIfInBounds_toArray, List.set_cons_zero, List.set_cons_succ])
     go_cut [40] (fun v40 wc => ∃ (kq : Nat) (x40_9 : Bool), v40 = .bool x40_9 ∧ Aside0 (dancestudioref23_Check.j1 kq x40_9 a0_0 a0_1 a0_2 a0_3 a0_4 a0_5 a0_6 = some r) ∧ Aside0 (kq ≤ kj1) ∧ Aside0 (wc.heap[gb130]? = some (.cells #[.int .i64 a0_0, .int .i64 a0_1, .int .i64 a0_2, .int .i64 a0_3, .int .i64 a0_4, .int .i64 a0_5, .int .i64 a0_6] 29 (0, 0))) ∧ Aside0 (Below w.heap.size w wc))
     case first =>
      have H := HC10.out
      clear HC10
      by_cases c12 : a0_2 < 0
      ·rw [if_pos c12] at H
       have c12b0 : decide (a0_2 < 0) = true := decide_eq_true c12
       clear c12
       (first | rw [c12b0] | (simp only [i64_w, i32_w]; rw [c12b0]) | skip)
       have H' := Aside0.mk H
       clear H
       have hcz13_0 := blk_cell BK130.out
       have hfz13_0 := blk_frozen BK130.out
       go_wp2
       go_meet
       case rel => exact ⟨_, (true), (by first | rfl | (simp; done) | (simp [*]; done)), H', ⟨by have := HJ1.out; first | omega | exact Nat.le_refl _⟩, ⟨by (with_reducible repeat (first | refine blk_drewN ?_ _ | refine blk_drew ?_ | refine blk_alloc ?_ _)); exact BK130.out⟩, ⟨hU HB.out⟩⟩
      ·rw [if_neg c12] at H
       have c12b0 : decide (a0_2 < 0) = false := decide_eq_false c12
       clear c12
       (first | rw [c12b0] | (simp only [i64_w, i32_w]; rw [c12b0]) | skip)
       by_cases c14 : a0_2 > 8191
       ·rw [if_pos c14] at H
        have c14b0 : decide (8191 < a0_2) = true := decide_eq_true c14
        clear c14
        have H' := Aside0.mk H
        clear H
        have hcz15_0 := blk_cell BK130.out
        have hfz15_0 := blk_frozen BK130.out
        go_wp2
        go_meet
        case rel => exact ⟨_, (true), (by first | rfl | (simp; done) | (simp [*]; done)), H', ⟨by have := HJ1.out; first | omega | exact Nat.le_refl _⟩, ⟨by (with_reducible repeat (first | refine blk_drewN ?_ _ | refine blk_drew ?_ | refine blk_alloc ?_ _)); exact BK130.out⟩, ⟨hU HB.out⟩⟩
       ·rw [if_neg c14] at H
        have c14b0 : decide (8191 < a0_2) = false := decide_eq_false c14
        clear c14
        by_cases c16 : a0_3 < 1
        ·rw [if_pos c16] at H
         have c16b0 : decide (a0_3 < 1) = true := decide_eq_true c16
         clear c16
         have H' := Aside0.mk H
         clear H
         have hcz17_0 := blk_cell BK130.out
         have hfz17_0 := blk_frozen BK130.out
         go_wp2
         go_meet
         case rel => exact ⟨_, (true), (by first | rfl | (simp; done) | (simp [*]; done)), H', ⟨by have := HJ1.out; first | omega | exact Nat.le_refl _⟩, ⟨by (with_reducible repeat (first | refine blk_drewN ?_ _ | refine blk_drew ?_ | refine blk_alloc ?_ _)); exact BK130.out⟩, ⟨hU HB.out⟩⟩
        ·rw [if_neg c16] at H
         have c16b0 : decide (a0_3 < 1) = false := decide_eq_false c16
         clear c16
         have H' := Aside0.mk H
         clear H
         have hcz18_0 := blk_cell BK130.out
         have hfz18_0 := blk_frozen BK130.out
         go_wp2
         go_meet
         case rel => exact ⟨_, (decide (a0_3 > (wrap64 (8192 - a0_2)))), (by first | rfl | (simp; done) | (simp [*]; done)), H', ⟨by have := HJ1.out; first | omega | exact Nat.le_refl _⟩, ⟨by (with_reducible repeat (first | refine blk_drewN ?_ _ | refine blk_drew ?_ | refine blk_alloc ?_ _)); exact BK130.out⟩, ⟨hU HB.out⟩⟩
     case rest =>
      clear HC10
      try clear c1
      try clear p2
      try clear c4
      try clear c4b0
      try clear c5
      try clear p6
      try clear c7
      try clear c8
      try clear c9
      try clear c12
      try clear c12b0
      try clear c14
      try clear c14b0
      try clear c16
      try clear c16b0
      try clear hcz11_0
      try clear hcz11_1
      try clear hcz11_2
      try clear hcz11_3
      try clear hcz11_4
      try clear hcz11_5
      try clear hcz11_6
      try clear hcz13_0
      try clear hcz13_1
      try clear hcz13_2
      try clear hcz13_3
      try clear hcz13_4
      try clear hcz13_5
      try clear hcz13_6
      try clear hcz15_0
      try clear hcz15_1
      try clear hcz15_2
      try clear hcz15_3
      try clear hcz15_4
      try clear hcz15_5
      try clear hcz15_6
      try clear hcz17_0
      try clear hcz17_1
      try clear hcz17_2
      try clear hcz17_3
      try clear hcz17_4
      try clear hcz17_5
      try clear hcz17_6
      try clear hcz18_0
      try clear hcz18_1
      try clear hcz18_2
      try clear hcz18_3
      try clear hcz18_4
      try clear hcz18_5
      try clear hcz18_6
      try clear hcz5_0
      try clear hcz5_1
      try clear hcz5_2
      try clear hcz5_3
      try clear hcz5_4
      try clear hcz5_5
      try clear hcz5_6
      try clear hcz6_0
      try clear hcz6_1
      try clear hcz6_2
      try clear hcz6_3
      try clear hcz6_4
      try clear hcz6_5
      try clear hcz6_6
      try clear hfz11_0
      try clear hfz11_1
      try clear hfz11_2
      try clear hfz11_3
      try clear hfz11_4
      try clear hfz11_5
      try clear hfz11_6
      try clear hfz13_0
      try clear hfz13_1
      try clear hfz13_2
      try clear hfz13_3
      try clear hfz13_4
      try clear hfz13_5
      try clear hfz13_6
      try clear hfz15_0
      try clear hfz15_1
      try clear hfz15_2
      try clear hfz15_3
      try clear hfz15_4
      try clear hfz15_5
      try clear hfz15_6
      try clear hfz17_0
      try clear hfz17_1
      try clear hfz17_2
      try clear hfz17_3
      try clear hfz17_4
      try clear hfz17_5
      try clear hfz17_6
      try clear hfz18_0
      try clear hfz18_1
      try clear hfz18_2
      try clear hfz18_3
      try clear hfz18_4
      try clear hfz18_5
      try clear hfz18_6
      try clear hfz5_0
      try clear hfz5_1
      try clear hfz5_2
      try clear hfz5_3
      try clear hfz5_4
      try clear hfz5_5
      try clear hfz5_6
      try clear hfz6_0
      try clear hfz6_1
      try clear hfz6_2
      try clear hfz6_3
      try clear hfz6_4
      try clear hfz6_5
      try clear hfz6_6
      try clear p2
      obtain ⟨kq, x40_9, rfl, HA, HJ9, BK130, HB⟩ := hcut
      cases kq with
      | zero => exact absurd HA.out (by simp [dancestudioref23_Check.j1])
      | succ kj9 =>
       have H := HA.out
       clear HA
       simp only [dancestudioref23_Check.j1] at H
       by_cases c19 : x40_9 = true
       ·subst c19
        have H1 : (some 1) = some r := by rw [if_pos rfl] at H; exact H
        clear H
        have H := H1
        clear H1
        obtain rfl := Option.some.inj H
        go_wp2
        go_ret
        exact ⟨by first | rfl | (simp [errW_none, errW_some] <;> rfl) | (simp [*, errW_none, errW_some] <;> rfl), hU HB.out⟩
       ·replace c19 := Bool.eq_false_iff.mpr c19
        subst c19
        rw [if_neg (show ¬ (false = true) by decide)] at H
        by_cases c20 : a0_0 = 1
        ·rw [if_pos c20] at H
         have c20b0 : (a0_0 == 1) = true := beq_iff_eq.mpr c20
         have c20b1 : (a0_0 != 1) = false := bne_eq_false_iff_eq.mpr c20
         clear c20
         replace H := Option.bind_eq_some_iff.mp H
         obtain ⟨t132, A210, H⟩ := H
         replace H : (if t132 = 0 then (if a0_6 = 0 then (some 0) else (some 2)) else (some t132)) = some r := H
         have A21 := Aside0.mk A210
         clear A210
         by_cases c22 : t132 = 0
         ·rw [if_pos c22] at H
          have c22b0 : (t132 == 0) = true := beq_iff_eq.mpr c22
          have c22b1 : (t132 != 0) = false := bne_eq_false_iff_eq.mpr c22
          clear c22
          by_cases c23 : a0_6 = 0
          ·rw [if_pos c23] at H
           have c23b0 : (a0_6 == 0) = true := beq_iff_eq.mpr c23
           have c23b1 : (a0_6 != 0) = false := bne_eq_false_iff_eq.mpr c23
           clear c23
           obtain rfl := Option.some.inj H
           have hcz24_0 := blk_cell BK130.out
           have hfz24_0 := blk_frozen BK130.out
           go_wp2_with (first | ((with_reducible refine gate_callee (f := 86) rfl ?_); refine goesL_ (some 48) rfl rfl Try.func86 (by kernel_rfl) rfl #[.int .i64 a0_4, .int .i64 a0_5] rfl (by (try simp only [List.map_toArray, List.map_cons, List.map_nil]); first | done | rfl | (simp only [List.length_drop, List.length_take]; rfl)) ?_; (with_reducible refine (dancestudioref16_Check.calls a0_4 a0_5 t132 _ A21.out).mono ?_); rintro e w' ⟨rfl, ⟨nd, rfl⟩⟩; refine ⟨_, rfl, ?_⟩))
           go_ret
           exact ⟨by first | rfl | (simp [errW_none, errW_some] <;> rfl) | (simp [*, errW_none, errW_some] <;> rfl), hU HB.out⟩
          ·rw [if_neg c23] at H
           have c23b0 : (a0_6 == 0) = false := beq_eq_false_iff_ne.mpr c23
           have c23b1 : (a0_6 != 0) = true := bne_iff_ne.mpr c23
           obtain rfl := Option.some.inj H
           have hcz25_0 := blk_cell BK130.out
           have hfz25_0 := blk_frozen BK130.out
           go_wp2_with (first | ((with_reducible refine gate_callee (f := 86) rfl ?_); refine goesL_ (some 48) rfl rfl Try.func86 (by kernel_rfl) rfl #[.int .i64 a0_4, .int .i64 a0_5] rfl (by (try simp only [List.map_toArray, List.map_cons, List.map_nil]); first | done | rfl | (simp only [List.length_drop, List.length_take]; rfl)) ?_; (with_reducible refine (dancestudioref16_Check.calls a0_4 a0_5 t132 _ A21.out).mono ?_); rintro e w' ⟨rfl, ⟨nd, rfl⟩⟩; refine ⟨_, rfl, ?_⟩))
           go_ret
           exact ⟨by first | rfl | (simp [errW_none, errW_some] <;> rfl) | (simp [*, errW_none, errW_some] <;> rfl), hU HB.out⟩
         ·rw [if_neg c22] at H
          have c22b0 : (t132 == 0) = false := beq_eq_false_iff_ne.mpr c22
          have c22b1 : (t132 != 0) = true := bne_iff_ne.mpr c22
          obtain rfl := Option.some.inj H
          have hcz26_0 := blk_cell BK130.out
          have hfz26_0 := blk_frozen BK130.out
          go_wp2_with (first | ((with_reducible refine gate_callee (f := 86) rfl ?_); refine goesL_ (some 48) rfl rfl Try.func86 (by kernel_rfl) rfl #[.int .i64 a0_4, .int .i64 a0_5] rfl (by (try simp only [List.map_toArray, List.map_cons, List.map_nil]); first | done | rfl | (simp only [List.length_drop, List.length_take]; rfl)) ?_; (with_reducible refine (dancestudioref16_Check.calls a0_4 a0_5 t132 _ A21.out).mono ?_); rintro e w' ⟨rfl, ⟨nd, rfl⟩⟩; refine ⟨_, rfl, ?_⟩))
          go_ret
          exact ⟨by first | rfl | (simp [errW_none, errW_some] <;> rfl) | (simp [*, errW_none, errW_some] <;> rfl), hU HB.out⟩
        ·rw [if_neg c20] at H
         have c20b0 : (a0_0 == 1) = false := beq_eq_false_iff_ne.mpr c20
         have c20b1 : (a0_0 != 1) = true := bne_iff_ne.mpr c20
         by_cases c27 : a0_0 = 3
         ·rw [if_pos c27] at H
          have c27b0 : (a0_0 == 3) = true := beq_iff_eq.mpr c27
          have c27b1 : (a0_0 != 3) = false := bne_eq_false_iff_eq.mpr c27
          clear c27
          replace H := Option.bind_eq_some_iff.mp H
          obtain ⟨⟨t133, t134, t135, t136⟩, A280, H⟩ := H
          replace H : (some t136) = some r := H
          have A28 := Aside0.mk A280
          clear A280
          obtain rfl := Option.some.inj H
          have hcz29_0 := blk_cell BK130.out
          have hfz29_0 := blk_frozen BK130.out
          go_wp2_with (first | ((with_reducible refine gate_callee (f := 87) rfl ?_); refine goesL_ (some 69) rfl rfl Try.func87 (by kernel_rfl) rfl #[.int .i64 (wrap64 (a0_1 - 2)), .agg #[.int .i64 a0_4, .int .i64 a0_5, .int .i64 a0_6]] rfl (by (try simp only [List.map_toArray, List.map_cons, List.map_nil]); first | done | rfl | (simp only [List.length_drop, List.length_take]; rfl)) ?_; (with_reducible refine (dancestudioref18_Of.calls (wrap64 (a0_1 - 2)) a0_4 a0_5 a0_6 t133 t134 t135 t136 _ A28.out).mono ?_); rintro e w30 ⟨rfl, hb⟩; refine ⟨_, rfl, ?_⟩; have n0_ := Aside0.mk (blk_below (bU BK130.out) hb); have n1_ := Aside0.mk (below_step (hU HB.out) hb); clear BK130; clear HB; have BK130 := n0_; have HB := n1_; clear n0_ n1_; (try clear hb); (try clear hb2); (try clear hk); (try clear hi)) | ((with_reducible refine gate_dst (N := 4) rfl ?_); refine box_event ?hg (N := 4) ?hd (cs := #[.int .i64 0, .int .i64 0, .int .i64 0]) (t := 98) ?hr ?_; (case hd => rfl); (case hg => rfl); (case hr => first | (go_simp; done) | (go_simp; rfl)); intro gb137 hg w31 hbox hb; have n0_ := Aside0.mk (blk_below (bU BK130.out) hb); have n1_ := Aside0.mk (below_step (hU HB.out) hb); have n2_ := Aside0.mk (hbox); have n3_ := Aside0.mk ((by rw [hg]; exact (below_size (hU HB.out)) : w.heap.size ≤ gb137)); have n4_ := Aside0.mk ((by rw [hg]; exact (below_size (hU HB.out)) : w.heap.size ≤ gb137)); have n5_ := Aside0.mk ((by rw [hg]; exact Nat.ne_of_lt (blk_lt (bU BK130.out)) : gb130 ≠ gb137)); have n6_ := Aside0.mk ((by rw [hg]; exact Nat.ne_of_gt (blk_lt (bU BK130.out)) : gb137 ≠ gb130)); clear BK130; clear HB; have BK130 := n0_; have HB := n1_; have BK137 := n2_; have GW137 := n3_; have GE137 := n4_; have NB130_137 := n5_; have NB137_130 := n6_; clear n0_ n1_ n2_ n3_ n4_ n5_ n6_; clear hb hbox hg; have hnb32 := NB137_130.out; have hnc32 := NB130_137.out; have hcz33_0 := blk_cell BK137.out; have hfz33_0 := blk_frozen BK137.out))
          go_ret
          exact ⟨by first | rfl | (simp [errW_none, errW_some] <;> rfl) | (simp [*, errW_none, errW_some] <;> rfl), hU HB.out⟩
         ·rw [if_neg c27] at H
          have c27b0 : (a0_0 == 3) = false := beq_eq_false_iff_ne.mpr c27
          have c27b1 : (a0_0 != 3) = true := bne_iff_ne.mpr c27
          have HC34 := Aside0.mk H
          clear H
          have hcz35_0 := blk_cell BK130.out
          have hfz35_0 := blk_frozen BK130.out
          go_upto_region 17 with (fail)
          go_cut [80] (fun v80 wc => ∃ (kq : Nat) (x80_33 : Bool), v80 = .bool x80_33 ∧ Aside0 (dancestudioref23_Check.j2 kq x80_33 a0_0 a0_1 a0_2 a0_3 a0_4 a0_5 a0_6 = some r) ∧ Aside0 (kq ≤ kj9) ∧ Aside0 (wc.heap[gb130]? = some (.cells #[.int .i64 a0_0, .int .i64 a0_1, .int .i64 a0_2, .int .i64 a0_3, .int .i64 a0_4, .int .i64 a0_5, .int .i64 a0_6] 29 (0, 0))) ∧ Aside0 (Below w.heap.size w wc))
          case first =>
           have H := HC34.out
           clear HC34
           by_cases c36 : a0_4 = 0
           ·rw [if_pos c36] at H
            have c36b0 : (a0_4 == 0) = true := beq_iff_eq.mpr c36
            have c36b1 : (a0_4 != 0) = false := bne_eq_false_iff_eq.mpr c36
            clear c36
            (first | rw [c36b0] | (simp only [i64_w, i32_w]; rw [c36b0]) | skip)
            have H' := Aside0.mk H
            clear H
            have hcz37_0 := blk_cell BK130.out
            have hfz37_0 := blk_frozen BK130.out
            go_wp2
            go_meet
            case rel => exact ⟨_, ((a0_5 != 0)), (by first | rfl | (simp; done) | (simp [*]; done)), H', ⟨by have := HJ1.out; have := HJ9.out; first | omega | exact Nat.le_refl _⟩, ⟨by (with_reducible repeat (first | refine blk_drewN ?_ _ | refine blk_drew ?_ | refine blk_alloc ?_ _)); exact BK130.out⟩, ⟨hU HB.out⟩⟩
           ·rw [if_neg c36] at H
            have c36b0 : (a0_4 == 0) = false := beq_eq_false_iff_ne.mpr c36
            have c36b1 : (a0_4 != 0) = true := bne_iff_ne.mpr c36
            (first | rw [c36b0] | (simp only [i64_w, i32_w]; rw [c36b0]) | skip)
            have H' := Aside0.mk H
            clear H
            have hcz38_0 := blk_cell BK130.out
            have hfz38_0 := blk_frozen BK130.out
            go_wp2
            go_meet
            case rel => exact ⟨_, (true), (by first | rfl | (simp; done) | (simp [*]; done)), H', ⟨by have := HJ1.out; have := HJ9.out; first | omega | exact Nat.le_refl _⟩, ⟨by (with_reducible repeat (first | refine blk_drewN ?_ _ | refine blk_drew ?_ | refine blk_alloc ?_ _)); exact BK130.out⟩, ⟨hU HB.out⟩⟩
          case rest =>
           clear HC34
           try clear c1
           try clear c2
           try clear p2
           try clear c3
           try clear c4
           try clear c4b0
           try clear c5
           try clear p6
           try clear c7
           try clear c8
           try clear c9
           try clear c12
           try clear c12b0
           try clear c14
           try clear c14b0
           try clear c16
           try clear c16b0
           try clear c19
           try clear c20
           try clear c20b0
           try clear c20b1
           try clear c22
           try clear c22b0
           try clear c22b1
           try clear c23
           try clear c23b0
           try clear c23b1
           try clear c27
           try clear c27b0
           try clear c27b1
           try clear c32
           try clear c36
           try clear c36b0
           try clear c36b1
           try clear hcz11_0
           try clear hcz11_1
           try clear hcz11_2
           try clear hcz11_3
           try clear hcz11_4
           try clear hcz11_5
           try clear hcz11_6
           try clear hcz13_0
           try clear hcz13_1
           try clear hcz13_2
           try clear hcz13_3
           try clear hcz13_4
           try clear hcz13_5
           try clear hcz13_6
           try clear hcz15_0
           try clear hcz15_1
           try clear hcz15_2
           try clear hcz15_3
           try clear hcz15_4
           try clear hcz15_5
           try clear hcz15_6
           try clear hcz17_0
           try clear hcz17_1
           try clear hcz17_2
           try clear hcz17_3
           try clear hcz17_4
           try clear hcz17_5
           try clear hcz17_6
           try clear hcz18_0
           try clear hcz18_1
           try clear hcz18_2
           try clear hcz18_3
           try clear hcz18_4
           try clear hcz18_5
           try clear hcz18_6
           try clear hcz24_0
           try clear hcz24_1
           try clear hcz24_2
           try clear hcz24_3
           try clear hcz24_4
           try clear hcz24_5
           try clear hcz24_6
           try clear hcz25_0
           try clear hcz25_1
           try clear hcz25_2
           try clear hcz25_3
           try clear hcz25_4
           try clear hcz25_5
           try clear hcz25_6
           try clear hcz26_0
           try clear hcz26_1
           try clear hcz26_2
           try clear hcz26_3
           try clear hcz26_4
           try clear hcz26_5
           try clear hcz26_6
           try clear hcz29_0
           try clear hcz29_1
           try clear hcz29_2
           try clear hcz29_3
           try clear hcz29_4
           try clear hcz29_5
           try clear hcz29_6
           try clear hcz33_0
           try clear hcz33_1
           try clear hcz33_2
           try clear hcz35_0
           try clear hcz35_1
           try clear hcz35_2
           try clear hcz35_3
           try clear hcz35_4
           try clear hcz35_5
           try clear hcz35_6
           try clear hcz37_0
           try clear hcz37_1
           try clear hcz37_2
           try clear hcz37_3
           try clear hcz37_4
           try clear hcz37_5
           try clear hcz37_6
           try clear hcz38_0
           try clear hcz38_1
           try clear hcz38_2
           try clear hcz38_3
           try clear hcz38_4
           try clear hcz38_5
           try clear hcz38_6
           try clear hcz5_0
           try clear hcz5_1
           try clear hcz5_2
           try clear hcz5_3
           try clear hcz5_4
           try clear hcz5_5
           try clear hcz5_6
           try clear hcz6_0
           try clear hcz6_1
           try clear hcz6_2
           try clear hcz6_3
           try clear hcz6_4
           try clear hcz6_5
           try clear hcz6_6
           try clear hfz11_0
           try clear hfz11_1
           try clear hfz11_2
           try clear hfz11_3
           try clear hfz11_4
           try clear hfz11_5
           try clear hfz11_6
           try clear hfz13_0
           try clear hfz13_1
           try clear hfz13_2
           try clear hfz13_3
           try clear hfz13_4
           try clear hfz13_5
           try clear hfz13_6
           try clear hfz15_0
           try clear hfz15_1
           try clear hfz15_2
           try clear hfz15_3
           try clear hfz15_4
           try clear hfz15_5
           try clear hfz15_6
           try clear hfz17_0
           try clear hfz17_1
           try clear hfz17_2
           try clear hfz17_3
           try clear hfz17_4
           try clear hfz17_5
           try clear hfz17_6
           try clear hfz18_0
           try clear hfz18_1
           try clear hfz18_2
           try clear hfz18_3
           try clear hfz18_4
           try clear hfz18_5
           try clear hfz18_6
           try clear hfz24_0
           try clear hfz24_1
           try clear hfz24_2
           try clear hfz24_3
           try clear hfz24_4
           try clear hfz24_5
           try clear hfz24_6
           try clear hfz25_0
           try clear hfz25_1
           try clear hfz25_2
           try clear hfz25_3
           try clear hfz25_4
           try clear hfz25_5
           try clear hfz25_6
           try clear hfz26_0
           try clear hfz26_1
           try clear hfz26_2
           try clear hfz26_3
           try clear hfz26_4
           try clear hfz26_5
           try clear hfz26_6
           try clear hfz29_0
           try clear hfz29_1
           try clear hfz29_2
           try clear hfz29_3
           try clear hfz29_4
           try clear hfz29_5
           try clear hfz29_6
           try clear hfz33_0
           try clear hfz33_1
           try clear hfz33_2
           try clear hfz35_0
           try clear hfz35_1
           try clear hfz35_2
           try clear hfz35_3
           try clear hfz35_4
           try clear hfz35_5
           try clear hfz35_6
           try clear hfz37_0
           try clear hfz37_1
           try clear hfz37_2
           try clear hfz37_3
           try clear hfz37_4
           try clear hfz37_5
           try clear hfz37_6
           try clear hfz38_0
           try clear hfz38_1
           try clear hfz38_2
           try clear hfz38_3
           try clear hfz38_4
           try clear hfz38_5
           try clear hfz38_6
           try clear hfz5_0
           try clear hfz5_1
           try clear hfz5_2
           try clear hfz5_3
           try clear hfz5_4
           try clear hfz5_5
           try clear hfz5_6
           try clear hfz6_0
           try clear hfz6_1
           try clear hfz6_2
           try clear hfz6_3
           try clear hfz6_4
           try clear hfz6_5
           try clear hfz6_6
           try clear p2
           try clear p6
           obtain ⟨kq, x80_33, rfl, HA, HJ33, BK130, HB⟩ := hcut
           cases kq with
           | zero => exact absurd HA.out (by simp [dancestudioref23_Check.j2])
           | succ kj33 =>
            have H := HA.out
            clear HA
            simp only [dancestudioref23_Check.j2] at H
            by_cases c39 : x80_33 = true
            ·subst c39
             have H1 : (some 2) = some r := by rw [if_pos rfl] at H; exact H
             clear H
             have H := H1
             clear H1
             obtain rfl := Option.some.inj H
             go_wp2
             go_ret
             exact ⟨by first | rfl | (simp [errW_none, errW_some] <;> rfl) | (simp [*, errW_none, errW_some] <;> rfl), hU HB.out⟩
            ·replace c39 := Bool.eq_false_iff.mpr c39
             subst c39
             rw [if_neg (show ¬ (false = true) by decide)] at H
             by_cases c40 : a0_0 = 2
             ·rw [if_pos c40] at H
              have c40b0 : (a0_0 == 2) = true := beq_iff_eq.mpr c40
              have c40b1 : (a0_0 != 2) = false := bne_eq_false_iff_eq.mpr c40
              clear c40
              by_cases c41 : a0_6 = 0
              ·rw [if_pos c41] at H
               have c41b0 : (a0_6 == 0) = true := beq_iff_eq.mpr c41
               have c41b1 : (a0_6 != 0) = false := bne_eq_false_iff_eq.mpr c41
               clear c41
               obtain rfl := Option.some.inj H
               have hcz42_0 := blk_cell BK130.out
               have hfz42_0 := blk_frozen BK130.out
               go_wp2
               go_ret
               exact ⟨by first | rfl | (simp [errW_none, errW_some] <;> rfl) | (simp [*, errW_none, errW_some] <;> rfl), hU HB.out⟩
              ·rw [if_neg c41] at H
               have c41b0 : (a0_6 == 0) = false := beq_eq_false_iff_ne.mpr c41
               have c41b1 : (a0_6 != 0) = true := bne_iff_ne.mpr c41
               obtain rfl := Option.some.inj H
               have hcz43_0 := blk_cell BK130.out
               have hfz43_0 := blk_frozen BK130.out
               go_wp2
               go_ret
               exact ⟨by first | rfl | (simp [errW_none, errW_some] <;> rfl) | (simp [*, errW_none, errW_some] <;> rfl), hU HB.out⟩
             ·rw [if_neg c40] at H
              have c40b0 : (a0_0 == 2) = false := beq_eq_false_iff_ne.mpr c40
              have c40b1 : (a0_0 != 2) = true := bne_iff_ne.mpr c40
              by_cases c44 : a0_6 < (-16)
              ·rw [if_pos c44] at H
               have c44b0 : decide (a0_6 < (-16)) = true := decide_eq_true c44
               clear c44
               obtain rfl := Option.some.inj H
               have hcz45_0 := blk_cell BK130.out
               have hfz45_0 := blk_frozen BK130.out
               go_wp2
               go_ret
               exact ⟨by first | rfl | (simp [errW_none, errW_some] <;> rfl) | (simp [*, errW_none, errW_some] <;> rfl), hU HB.out⟩
              ·rw [if_neg c44] at H
               have c44b0 : decide (a0_6 < (-16)) = false := decide_eq_false c44
               clear c44
               by_cases c46 : a0_6 > 16
               ·rw [if_pos c46] at H
                have c46b0 : decide (16 < a0_6) = true := decide_eq_true c46
                clear c46
                obtain rfl := Option.some.inj H
                have hcz47_0 := blk_cell BK130.out
                have hfz47_0 := blk_frozen BK130.out
                go_wp2
                go_ret
                exact ⟨by first | rfl | (simp [errW_none, errW_some] <;> rfl) | (simp [*, errW_none, errW_some] <;> rfl), hU HB.out⟩
               ·rw [if_neg c46] at H
                have c46b0 : decide (16 < a0_6) = false := decide_eq_false c46
                clear c46
                by_cases c48 : a0_6 = 0
                ·rw [if_pos c48] at H
                 have c48b0 : (a0_6 == 0) = true := beq_iff_eq.mpr c48
                 have c48b1 : (a0_6 != 0) = false := bne_eq_false_iff_eq.mpr c48
                 clear c48
                 obtain rfl := Option.some.inj H
                 have hcz49_0 := blk_cell BK130.out
                 have hfz49_0 := blk_frozen BK130.out
                 go_wp2
                 go_ret
                 exact ⟨by first | rfl | (simp [errW_none, errW_some] <;> rfl) | (simp [*, errW_none, errW_some] <;> rfl), hU HB.out⟩
                ·rw [if_neg c48] at H
                 have c48b0 : (a0_6 == 0) = false := beq_eq_false_iff_ne.mpr c48
                 have c48b1 : (a0_6 != 0) = true := bne_iff_ne.mpr c48
                 obtain rfl := Option.some.inj H
                 have hcz50_0 := blk_cell BK130.out
                 have hfz50_0 := blk_frozen BK130.out
                 go_wp2
                 go_ret
                 exact ⟨by first | rfl | (simp [errW_none, errW_some] <;> rfl) | (simp [*, errW_none, errW_some] <;> rfl), hU HB.out⟩
    ·replace c9 := Bool.eq_false_iff.mpr c9
     subst c9
     have H1 : (some 16) = some r := by rw [if_neg (show ¬ (false = true) by decide)] at H; exact H
     clear H
     have H := H1
     clear H1
     obtain rfl := Option.some.inj H
     have hcz51_0 := blk_cell BK130.out
     have hfz51_0 := blk_frozen BK130.out
     go_wp2_with (first | ((with_reducible refine gate_callee (f := 85) rfl ?_); refine goesL_ (some 18) rfl rfl Try.func85 (by kernel_rfl) rfl #[.int .i64 a0_0, .int .i64 a0_1] rfl (by (try simp only [List.map_toArray, List.map_cons, List.map_nil]); first | done | rfl | (simp only [List.length_drop, List.length_take]; rfl)) ?_; (with_reducible refine (dancestudioref23_column.calls kj1 a0_0 a0_1 false _ A8.out).mono ?_); rintro e w' ⟨rfl, ⟨nd, rfl⟩⟩; refine ⟨_, rfl, ?_⟩))
     go_ret
     exact ⟨by first | rfl | (simp [errW_none, errW_some] <;> rfl) | (simp [*, errW_none, errW_some] <;> rfl), hU HB.out⟩

end Go.Proofs.Ytdilndbanhianaa.P
end
section
set_option linter.unusedVariables false
set_option linter.unusedSimpArgs false
namespace Go.Proofs.Ytdilndbanhianaa.P
open Go.RowKit Go.Proofs.YtdilndbanhianaaW.PrintWords Go.Proofs.YtdilndbanhianaaW.PrintLast Go.Proofs.YtdilndbanhianaaW.PrintMore
theorem column_eq (j : Nat) (k c : Int) (h : ¬ (k < 1 ∨ 4 < k)) : dancestudioref23_column.f (j + 1) k c = some (decide (colP k c)) := by
  unfold dancestudioref23_column.f dancestudioref23_column.j0 colP
  grind
theorem refCheck_1 (j : Nat) (x : Bool) (k c b l d v m : Int) (h1 : ¬ (k < 1 ∨ 4 < k)) (hc : 0 ≤ c ∧ c ≤ 8) : dancestudioref23_Check.j1 (j + 2) x k c b l d v m = some (if x = true then 1 else sayC k c d v m) := by
  simp only [dancestudioref23_Check.j1, sayC]
  rw [wrap_in (c - 2) (by omega) (by omega)]
  cases x with
  | true => simp
  | false =>
    simp only [if_neg (show ¬ (false = true) by decide)]
    by_cases k1 : k = 1
    · rw [if_pos k1, if_pos k1]
      have e : dancestudioref16_Check.f d v = some (if 0 ≤ d ∧ d ≤ 8 ∧ -1 ≤ v ∧ v ≤ 1 then 0 else 1) := dancestudioref18_Of.dcheck_eq d v
      rw [e, Option.bind_some]
      by_cases h : 0 ≤ d ∧ d ≤ 8 ∧ -1 ≤ v ∧ v ≤ 1
      · rw [if_pos h, if_pos h, if_pos rfl]; split <;> rfl
      · rw [if_neg h, if_neg h, if_neg (by decide)]
    · rw [if_neg k1, if_neg k1]
      by_cases k3 : k = 3
      · rw [if_pos k3, if_neg (by omega), if_pos k3]
        simp only [dancestudioref18_Of.f, Option.bind_some]
      · rw [if_neg k3, if_neg k3]
        simp only [dancestudioref23_Check.j2]
        by_cases k2 : k = 2
        · by_cases h : d = 0 <;> by_cases h' : v = 0 <;> by_cases h'' : m = 0 <;> simp [h, h', h'', k2]
        · have k4 : k = 4 := by omega
          by_cases h : d = 0 <;> by_cases h' : v = 0 <;> simp [k4, h, h']
          by_cases a : m < -16 <;> by_cases a' : 16 < m <;> by_cases a'' : m = 0 <;> simp [a, a', a'']
theorem refCheck_j (j : Nat) (x : Bool) (k c b l d v m : Int) (hx : x = false) (h1 : ¬ (k < 1 ∨ 4 < k)) : dancestudioref23_Check.j0 (j + 3) x k c b l d v m = some (chkP k c b l d v m) := by
  subst hx
  simp only [dancestudioref23_Check.j0, chkP, if_neg h1]
  rw [column_eq (j + 1) k c h1, if_neg (by decide)]
  simp only [Option.bind_some, decide_eq_true_eq]
  by_cases h2 : colP k c
  · have hc : 0 ≤ c ∧ c ≤ 8 := by unfold colP at h2; grind
    rw [if_pos h2, if_neg (not_not_intro h2), refCheck_1 j _ k c b l d v m h1 hc, refCheck_1 j _ k c b l d v m h1 hc]
    by_cases h3 : b < 0 ∨ 8191 < b
    · rw [if_pos (by omega : b < 0 ∨ 8191 < b ∨ l < 1 ∨ 8192 - b < l)]
      rcases h3 with h3 | h3
      · rw [if_pos h3]; rfl
      · rw [if_neg (by omega), if_pos (by omega)]; rfl
    · rw [wrap_in (8192 - b) (by omega) (by omega), if_neg (by omega), if_neg (by omega)]
      by_cases h4 : l < 1 ∨ 8192 - b < l
      · rw [if_pos (by omega : b < 0 ∨ 8191 < b ∨ l < 1 ∨ 8192 - b < l)]
        rcases h4 with h4 | h4
        · rw [if_pos h4]; rfl
        · by_cases h5 : l < 1
          · rw [if_pos h5]; rfl
          · rw [if_neg h5, if_pos (by simpa using h4)]
      · rw [if_neg (by omega), if_neg (by simp; omega), if_neg (by omega : ¬ (b < 0 ∨ 8191 < b ∨ l < 1 ∨ 8192 - b < l))]
  · rw [if_neg h2, if_pos h2]
theorem refCheck_eq (j : Nat) (k c b l d v m : Int) : dancestudioref23_Check.f (j + 3) k c b l d v m = some (chkP k c b l d v m) := by
  unfold dancestudioref23_Check.f
  by_cases h1 : k < 1 ∨ 4 < k
  · have e : chkP k c b l d v m = 9 := by rw [chkP, if_pos h1]
    rw [e]
    rcases h1 with h1 | h1
    · rw [if_pos h1]; simp [dancestudioref23_Check.j0]
    · rw [if_neg (by omega)]; simp [dancestudioref23_Check.j0, h1]
  · rw [if_neg (by omega)]
    exact refCheck_j j _ k c b l d v m (by simp; omega) h1
end Go.Proofs.Ytdilndbanhianaa.P
end
section
namespace Go.Proofs.Ytdilndbanhianaa.P
open Go.RowKit Go.Proofs.YtdilndbanhianaaW.PrintWords Go.Proofs.YtdilndbanhianaaW.PrintLast Go.Proofs.YtdilndbanhianaaW.PrintMore
attribute [local go_sem] max2_int min2_int max_two min_two max_three min_three max_four min_four   -- for this text's walks alone
set_option linter.unusedVariables false
set_option linter.unusedSimpArgs false

/-! ### dancestudioref24_Check: function 21 -/
mutual
def dancestudioref24_Check.j0 : Nat → List (S29) → Int → Bool → Option (Int)
 | 0, _, _, _ => none
 | k + 1, x0, x1, x15 => if x15 = true then (some 1) else (if (x0.length : Int) > 256 then (some 3) else (dancestudioref24_Check.l0 k x0 x1 0))
def dancestudioref24_Check.l0 : Nat → List (S29) → Int → Int → Option (Int)
 | 0, _, _, _ => none
 | k + 1, x0, x1, x5 => if x5 < (x0.length : Int) then (if 0 ≤ x5 then ((dancestudioref23_Check.f k ((rd_T29 x0 x5).f0) ((rd_T29 x0 x5).f1) ((rd_T29 x0 x5).f2) ((rd_T29 x0 x5).f3) ((rd_T29 x0 x5).f4) ((rd_T29 x0 x5).f5) ((rd_T29 x0 x5).f6)).bind fun t142 => (if t142 = 0 then (dancestudioref24_Check.l0 k x0 x1 (wrap64 (x5 + 1))) else (some t142))) else (none)) else (dancestudioref24_Check.l1 k x0 x1 1)
def dancestudioref24_Check.l1 : Nat → List (S29) → Int → Int → Option (Int)
 | 0, _, _, _ => none
 | k + 1, x0, x1, x7 => if x7 < (x0.length : Int) then (if 0 ≤ (wrap64 (x7 - 1)) then (if (wrap64 (x7 - 1)) < (x0.length : Int) then (if 0 ≤ x7 then ((dancestudioref23_Less.f ((rd_T29 x0 (wrap64 (x7 - 1))).f0) ((rd_T29 x0 (wrap64 (x7 - 1))).f1) ((rd_T29 x0 (wrap64 (x7 - 1))).f2) ((rd_T29 x0 (wrap64 (x7 - 1))).f3) ((rd_T29 x0 (wrap64 (x7 - 1))).f4) ((rd_T29 x0 (wrap64 (x7 - 1))).f5) ((rd_T29 x0 (wrap64 (x7 - 1))).f6) ((rd_T29 x0 x7).f0) ((rd_T29 x0 x7).f1) ((rd_T29 x0 x7).f2) ((rd_T29 x0 x7).f3) ((rd_T29 x0 x7).f4) ((rd_T29 x0 x7).f5) ((rd_T29 x0 x7).f6)).bind fun t145 => (if t145 = true then (dancestudioref24_Check.l1 k x0 x1 (wrap64 (x7 + 1))) else (some 5))) else (none)) else (none)) else (none)) else (dancestudioref24_Check.l2 k x0 x1 0)
def dancestudioref24_Check.l2 : Nat → List (S29) → Int → Int → Option (Int)
 | 0, _, _, _ => none
 | k + 1, x0, x1, x8 => if x8 < (x0.length : Int) then (if 0 ≤ x8 then ((dancestudioref24_end.f ((rd_T29 x0 x8).f0) ((rd_T29 x0 x8).f1) ((rd_T29 x0 x8).f2) ((rd_T29 x0 x8).f3) ((rd_T29 x0 x8).f4) ((rd_T29 x0 x8).f5) ((rd_T29 x0 x8).f6)).bind fun t147 => (if t147 > x1 then (some 1) else (dancestudioref24_Check.l3 k x0 x1 x8 0))) else (none)) else (some 0)
def dancestudioref24_Check.l3 : Nat → List (S29) → Int → Int → Int → Option (Int)
 | 0, _, _, _, _ => none
 | k + 1, x0, x1, x8, x9 => if x9 < x8 then (if 0 ≤ x9 then (if x9 < (x0.length : Int) then (if 0 ≤ x8 then (if x8 < (x0.length : Int) then (if ((rd_T29 x0 x9).f1) = ((rd_T29 x0 x8).f1) then ((dancestudioref24_end.f ((rd_T29 x0 x9).f0) ((rd_T29 x0 x9).f1) ((rd_T29 x0 x9).f2) ((rd_T29 x0 x9).f3) ((rd_T29 x0 x9).f4) ((rd_T29 x0 x9).f5) ((rd_T29 x0 x9).f6)).bind fun t151 => (if t151 > ((rd_T29 x0 x8).f2) then (some 17) else (dancestudioref24_Check.l3 k x0 x1 x8 (wrap64 (x9 + 1))))) else (dancestudioref24_Check.l3 k x0 x1 x8 (wrap64 (x9 + 1)))) else (none)) else (none)) else (none)) else (none)) else (dancestudioref24_Check.l2 k x0 x1 (wrap64 (x8 + 1)))
end
def dancestudioref24_Check.f (k : Nat) (l0 : List (S29)) (a1 : Int) : Option (Int) := if a1 < 1 then (dancestudioref24_Check.j0 k l0 a1 true) else (dancestudioref24_Check.j0 k l0 a1 (decide (a1 > 8192)))
theorem dancestudioref24_Check.mono_l : ∀ k, (∀ y0 y1 y2, LeO (dancestudioref24_Check.j0 k y0 y1 y2) (dancestudioref24_Check.j0 (k + 1) y0 y1 y2)) ∧ (∀ y0 y1 y2, LeO (dancestudioref24_Check.l0 k y0 y1 y2) (dancestudioref24_Check.l0 (k + 1) y0 y1 y2)) ∧ (∀ y0 y1 y2, LeO (dancestudioref24_Check.l1 k y0 y1 y2) (dancestudioref24_Check.l1 (k + 1) y0 y1 y2)) ∧ (∀ y0 y1 y2, LeO (dancestudioref24_Check.l2 k y0 y1 y2) (dancestudioref24_Check.l2 (k + 1) y0 y1 y2)) ∧ (∀ y0 y1 y2 y3, LeO (dancestudioref24_Check.l3 k y0 y1 y2 y3) (dancestudioref24_Check.l3 (k + 1) y0 y1 y2 y3))
 | 0 => ⟨fun _ _ _ r h => by simp [dancestudioref24_Check.j0] at h, fun _ _ _ r h => by simp [dancestudioref24_Check.l0] at h, fun _ _ _ r h => by simp [dancestudioref24_Check.l1] at h, fun _ _ _ r h => by simp [dancestudioref24_Check.l2] at h, fun _ _ _ _ r h => by simp [dancestudioref24_Check.l3] at h⟩
 | k + 1 => by
  obtain ⟨ih0, ih1, ih2, ih3, ih4⟩ := dancestudioref24_Check.mono_l k
  refine ⟨?_, ?_, ?_, ?_, ?_⟩
  ·intro y0 y1 y2
   unfold dancestudioref24_Check.j0
   repeat' first
   | (with_reducible exact ih0 _ _ _)
   | (with_reducible exact ih1 _ _ _)
   | (with_reducible exact ih2 _ _ _)
   | (with_reducible exact ih3 _ _ _)
   | (with_reducible exact ih4 _ _ _ _)
   | (with_reducible exact dancestudioref23_Check.mono _ _ _ _ _ _ _ _)
   | (with_reducible exact LeO.refl _)
   | (with_reducible exact LeO.none _)
   | (with_reducible refine LeO.ite ?_ ?_)
   | (with_reducible refine LeO.bind ?_ (fun _ => ?_))
   | exact ih0 _ _ _
   | exact ih1 _ _ _
   | exact ih2 _ _ _
   | exact ih3 _ _ _
   | exact ih4 _ _ _ _
   | exact dancestudioref23_Check.mono _ _ _ _ _ _ _ _
   | exact LeO.none _
   | refine LeO.ite ?_ ?_
   | refine LeO.bind ?_ (fun _ => ?_)
  ·intro y0 y1 y2
   unfold dancestudioref24_Check.l0
   repeat' first
   | (with_reducible exact ih0 _ _ _)
   | (with_reducible exact ih1 _ _ _)
   | (with_reducible exact ih2 _ _ _)
   | (with_reducible exact ih3 _ _ _)
   | (with_reducible exact ih4 _ _ _ _)
   | (with_reducible exact dancestudioref23_Check.mono _ _ _ _ _ _ _ _)
   | (with_reducible exact LeO.refl _)
   | (with_reducible exact LeO.none _)
   | (with_reducible refine LeO.ite ?_ ?_)
   | (with_reducible refine LeO.bind ?_ (fun _ => ?_))
   | exact ih0 _ _ _
   | exact ih1 _ _ _
   | exact ih2 _ _ _
   | exact ih3 _ _ _
   | exact ih4 _ _ _ _
   | exact dancestudioref23_Check.mono _ _ _ _ _ _ _ _
   | exact LeO.none _
   | refine LeO.ite ?_ ?_
   | refine LeO.bind ?_ (fun _ => ?_)
  ·intro y0 y1 y2
   unfold dancestudioref24_Check.l1
   repeat' first
   | (with_reducible exact ih0 _ _ _)
   | (with_reducible exact ih1 _ _ _)
   | (with_reducible exact ih2 _ _ _)
   | (with_reducible exact ih3 _ _ _)
   | (with_reducible exact ih4 _ _ _ _)
   | (with_reducible exact dancestudioref23_Check.mono _ _ _ _ _ _ _ _)
   | (with_reducible exact LeO.refl _)
   | (with_reducible exact LeO.none _)
   | (with_reducible refine LeO.ite ?_ ?_)
   | (with_reducible refine LeO.bind ?_ (fun _ => ?_))
   | exact ih0 _ _ _
   | exact ih1 _ _ _
   | exact ih2 _ _ _
   | exact ih3 _ _ _
   | exact ih4 _ _ _ _
   | exact dancestudioref23_Check.mono _ _ _ _ _ _ _ _
   | exact LeO.none _
   | refine LeO.ite ?_ ?_
   | refine LeO.bind ?_ (fun _ => ?_)
  ·intro y0 y1 y2
   unfold dancestudioref24_Check.l2
   repeat' first
   | (with_reducible exact ih0 _ _ _)
   | (with_reducible exact ih1 _ _ _)
   | (with_reducible exact ih2 _ _ _)
   | (with_reducible exact ih3 _ _ _)
   | (with_reducible exact ih4 _ _ _ _)
   | (with_reducible exact dancestudioref23_Check.mono _ _ _ _ _ _ _ _)
   | (with_reducible exact LeO.refl _)
   | (with_reducible exact LeO.none _)
   | (with_reducible refine LeO.ite ?_ ?_)
   | (with_reducible refine LeO.bind ?_ (fun _ => ?_))
   | exact ih0 _ _ _
   | exact ih1 _ _ _
   | exact ih2 _ _ _
   | exact ih3 _ _ _
   | exact ih4 _ _ _ _
   | exact dancestudioref23_Check.mono _ _ _ _ _ _ _ _
   | exact LeO.none _
   | refine LeO.ite ?_ ?_
   | refine LeO.bind ?_ (fun _ => ?_)
  ·intro y0 y1 y2 y3
   unfold dancestudioref24_Check.l3
   repeat' first
   | (with_reducible exact ih0 _ _ _)
   | (with_reducible exact ih1 _ _ _)
   | (with_reducible exact ih2 _ _ _)
   | (with_reducible exact ih3 _ _ _)
   | (with_reducible exact ih4 _ _ _ _)
   | (with_reducible exact dancestudioref23_Check.mono _ _ _ _ _ _ _ _)
   | (with_reducible exact LeO.refl _)
   | (with_reducible exact LeO.none _)
   | (with_reducible refine LeO.ite ?_ ?_)
   | (with_reducible refine LeO.bind ?_ (fun _ => ?_))
   | exact ih0 _ _ _
   | exact ih1 _ _ _
   | exact ih2 _ _ _
   | exact ih3 _ _ _
   | exact ih4 _ _ _ _
   | exact dancestudioref23_Check.mono _ _ _ _ _ _ _ _
   | exact LeO.none _
   | refine LeO.ite ?_ ?_
   | refine LeO.bind ?_ (fun _ => ?_)
theorem dancestudioref24_Check.mono : ∀ a0 a1 k, LeO (dancestudioref24_Check.f k a0 a1) (dancestudioref24_Check.f (k + 1) a0 a1) := by
 intro a0 a1 k
 obtain ⟨ih0, ih1, ih2, ih3, ih4⟩ := dancestudioref24_Check.mono_l k
 unfold dancestudioref24_Check.f
 repeat' first
   | (with_reducible exact ih0 _ _ _)
   | (with_reducible exact ih1 _ _ _)
   | (with_reducible exact ih2 _ _ _)
   | (with_reducible exact ih3 _ _ _)
   | (with_reducible exact ih4 _ _ _ _)
   | (with_reducible exact dancestudioref23_Check.mono _ _ _ _ _ _ _ _)
   | (with_reducible exact LeO.refl _)
   | (with_reducible exact LeO.none _)
   | (with_reducible refine LeO.ite ?_ ?_)
   | (with_reducible refine LeO.bind ?_ (fun _ => ?_))
   | exact ih0 _ _ _
   | exact ih1 _ _ _
   | exact ih2 _ _ _
   | exact ih3 _ _ _
   | exact ih4 _ _ _ _
   | exact dancestudioref23_Check.mono _ _ _ _ _ _ _ _
   | exact LeO.none _
   | refine LeO.ite ?_ ?_
   | refine LeO.bind ?_ (fun _ => ?_)
def dancestudioref24_Check.T14 : Bool × List (List Nat × List Nat) := (true, [([], []), ([], []), ([1], [1]), ([0, 2], [0, 2]), ([3], [3]), ([], []), ([], []), ([5, 6], [5, 6]), ([7], [7]), ([4, 8], [4, 8]), ([9], [9])])
def dancestudioref24_Check.B14 : List Nat := [0, 0, 2, 7, 15, 0, 0, 96, 224, 511, 1023]
theorem dancestudioref24_Check.tab14 : rtab .any (opsOf Try.f21 14) = dancestudioref24_Check.T14 := by kernel_rfl
theorem dancestudioref24_Check.bits14 : waitsOk dancestudioref24_Check.T14.2 dancestudioref24_Check.B14 = true := by kernel_rfl
def dancestudioref24_Check.T24 : Bool × List (List Nat × List Nat) := (true, [([], []), ([], []), ([0, 1], [0, 1]), ([2], [2]), ([3], [3]), ([], []), ([], []), ([5, 6], [5, 6]), ([7], [7]), ([8], [8]), ([4, 9], [4, 9]), ([10], [10]), ([11], [11]), ([11], [11]), ([12, 13, 11], [11, 12, 13]), ([14, 11], [11, 14]), ([15, 11, 11], [11, 15]), ([11], [11]), ([11], [11]), ([17, 18, 11], [11, 17, 18]), ([19, 11], [11, 19]), ([20, 11], [11, 20]), ([16, 21, 11], [11, 16, 21]), ([11, 22], [11, 22])])
def dancestudioref24_Check.B24 : List Nat := [0, 0, 3, 7, 15, 0, 0, 96, 224, 480, 1023, 2047, 4095, 4095, 16383, 32767, 65535, 4095, 4095, 397311, 921599, 1970175, 4194303, 8388607]
theorem dancestudioref24_Check.tab24 : rtab .any (opsOf Try.f21 24) = dancestudioref24_Check.T24 := by kernel_rfl
theorem dancestudioref24_Check.bits24 : waitsOk dancestudioref24_Check.T24.2 dancestudioref24_Check.B24 = true := by kernel_rfl
set_option maxHeartbeats 8000000 in
set_option maxRecDepth 100000 in
theorem dancestudioref24_Check.calls (k : Nat) (A0 : Option Addr) (c0 : Nat) (l0 : List (S29)) (a1 : Int) (r : Int) (w : World) (hr0 : Kd.C k29 w A0 l0.length l0) (hc0 : l0.length ≤ c0) (h : dancestudioref24_Check.f k l0 a1 = some r) :
  Calls Try.prog 21 #[.slice A0 l0.length c0, .int .i64 a1] w fun e w' => e = .returned (.int .i64 r) ∧ Below w.heap.size w w' := by
 have hu29 := Try.underlying29
 have HR0 := Aside0.mk hr0
 have HC0 := Aside0.mk hc0
 clear hr0 hc0
 have HB := Aside0.mk (Below.refl w.heap.size w)
 have H : (if a1 < 1 then (dancestudioref24_Check.j0 k l0 a1 true) else (dancestudioref24_Check.j0 k l0 a1 (decide (a1 > 8192)))) = some r := h
 clear h
 have HC3 := Aside0.mk H
 clear H
 go_enter Try.func21, Try.ntmps21
 go_upto_region 1 with (fail)
 go_cut [15] (fun v15 wc => ∃ (kq : Nat) (x15_2 : Bool), v15 = .bool x15_2 ∧ Aside0 (dancestudioref24_Check.j0 kq l0 a1 x15_2 = some r) ∧ Aside0 (kq ≤ k) ∧ Aside0 (Below w.heap.size w wc))
 case first =>
  have H := HC3.out
  clear HC3
  by_cases c4 : a1 < 1
  ·rw [if_pos c4] at H
   have c4b0 : decide (a1 < 1) = true := decide_eq_true c4
   clear c4
   (first | rw [c4b0] | (simp only [i64_w, i32_w]; rw [c4b0]) | skip)
   have H' := Aside0.mk H
   clear H
   go_wp2
   go_meet
   case rel => exact ⟨_, (true), (by first | rfl | (simp; done) | (simp [*]; done)), H', ⟨by first | omega | exact Nat.le_refl _⟩, ⟨hU HB.out⟩⟩
  ·rw [if_neg c4] at H
   have c4b0 : decide (a1 < 1) = false := decide_eq_false c4
   clear c4
   (first | rw [c4b0] | (simp only [i64_w, i32_w]; rw [c4b0]) | skip)
   have H' := Aside0.mk H
   clear H
   go_wp2
   go_meet
   case rel => exact ⟨_, (decide (a1 > 8192)), (by first | rfl | (simp; done) | (simp [*]; done)), H', ⟨by first | omega | exact Nat.le_refl _⟩, ⟨hU HB.out⟩⟩
 case rest =>
  clear HC3
  try clear c2
  try clear p2
  try clear c4
  try clear c4b0
  obtain ⟨kq, x15_2, rfl, HA, HJ2, HB⟩ := hcut
  cases kq with
  | zero => exact absurd HA.out (by simp [dancestudioref24_Check.j0])
  | succ kj2 =>
   have H := HA.out
   clear HA
   simp only [dancestudioref24_Check.j0] at H
   by_cases c5 : x15_2 = true
   ·subst c5
    have H1 : (some 1) = some r := by rw [if_pos rfl] at H; exact H
    clear H
    have H := H1
    clear H1
    obtain rfl := Option.some.inj H
    go_wp2
    go_ret
    exact ⟨by first | rfl | (simp [errW_none, errW_some] <;> rfl) | (simp [*, errW_none, errW_some] <;> rfl), hU HB.out⟩
   ·replace c5 := Bool.eq_false_iff.mpr c5
    subst c5
    have H1 : (if (l0.length : Int) > 256 then (some 3) else (dancestudioref24_Check.l0 kj2 l0 a1 0)) = some r := by rw [if_neg (show ¬ (false = true) by decide)] at H; exact H
    clear H
    have H := H1
    clear H1
    by_cases c6 : (l0.length : Int) > 256
    ·rw [if_pos c6] at H
     have c6b0 : decide (256 < (l0.length : Int)) = true := decide_eq_true c6
     have c6b1 : decide (256 < l0.length) = true := decide_eq_true (by omega)
     clear c6
     obtain rfl := Option.some.inj H
     go_wp2
     go_ret
     exact ⟨by first | rfl | (simp [errW_none, errW_some] <;> rfl) | (simp [*, errW_none, errW_some] <;> rfl), hU HB.out⟩
    ·rw [if_neg c6] at H
     have c6b0 : decide (256 < (l0.length : Int)) = false := decide_eq_false c6
     have c6b1 : decide (256 < l0.length) = false := decide_eq_false (by omega)
     clear c6
     have H' := Aside0.mk H
     clear H
     go_wp2
     go_loopg [5] kj2 (fun kq v5 w' => ∃ (x5_2 : Int), v5 = .int .i64 x5_2 ∧ Aside0 (dancestudioref24_Check.l0 kq l0 a1 x5_2 = some r) ∧ Aside0 (kq ≤ kj2) ∧ Aside0 (Below w.heap.size w w'))
     case atStart => exact ⟨(0), (by first | rfl | (simp; done) | (simp [*]; done)), H', ⟨Nat.le_refl _⟩, ⟨hU HB.out⟩⟩
     case round =>
      clear H'
      try clear c2
      try clear p2
      try clear c4
      try clear c4b0
      try clear c5
      try clear c6
      try clear c6b0
      try clear c6b1
      try clear p2
      obtain ⟨x5_2, rfl, HA, HK2, HB⟩ := hrel
      cases gk with
      | zero => exact absurd HA.out (by simp [dancestudioref24_Check.l0])
      | succ k2 =>
       have H := HA.out
       clear HA
       simp only [dancestudioref24_Check.l0] at H
       by_cases c7 : x5_2 < (l0.length : Int)
       ·rw [if_pos c7] at H
        have c7b0 : decide (x5_2 < (l0.length : Int)) = true := decide_eq_true c7
        clear c7
        by_cases c8 : 0 ≤ x5_2
        ·rw [if_pos c8] at H
         have c8b0 : decide (0 ≤ x5_2) = true := decide_eq_true c8
         clear c8
         replace H := Option.bind_eq_some_iff.mp H
         obtain ⟨t142, A90, H⟩ := H
         replace H : (if t142 = 0 then (dancestudioref24_Check.l0 k2 l0 a1 (wrap64 (x5_2 + 1))) else (some t142)) = some r := H
         have A9 := Aside0.mk A90
         clear A90
         by_cases c10 : t142 = 0
         ·rw [if_pos c10] at H
          have c10b0 : (t142 == 0) = true := beq_iff_eq.mpr c10
          have c10b1 : (t142 != 0) = false := bne_eq_false_iff_eq.mpr c10
          clear c10
          have H' := Aside0.mk H
          clear H
          have p141 : 0 ≤ (x5_2 : Int) := of_decide_eq_true (by first | (with_reducible assumption) | assumption)
          have q141 : x5_2 < (l0.length : Int) := of_decide_eq_true (by first | (with_reducible assumption) | assumption)
          obtain ⟨ad141, e141, hx141_0, hx141_1, hx141_2, hx141_3, hx141_4, hx141_5, hx141_6⟩ := at_T29 HR0.out x5_2 p141 q141
          cases e141
          replace hx141_0 := hbC HB hx141_0
          replace hx141_1 := hbC HB hx141_1
          replace hx141_2 := hbC HB hx141_2
          replace hx141_3 := hbC HB hx141_3
          replace hx141_4 := hbC HB hx141_4
          replace hx141_5 := hbC HB hx141_5
          replace hx141_6 := hbC HB hx141_6
          replace p141 := eq_true p141
          replace q141 := eq_true q141
          go_wp2_with (first | ((with_reducible refine gate_callee (f := 55) rfl ?_); refine goesL_ (some 29) rfl rfl Try.func55 (by kernel_rfl) rfl #[.agg #[.int .i64 ((rd_T29 l0 x5_2).f0), .int .i64 ((rd_T29 l0 x5_2).f1), .int .i64 ((rd_T29 l0 x5_2).f2), .int .i64 ((rd_T29 l0 x5_2).f3), .int .i64 ((rd_T29 l0 x5_2).f4), .int .i64 ((rd_T29 l0 x5_2).f5), .int .i64 ((rd_T29 l0 x5_2).f6)]] rfl (by (try simp only [List.map_toArray, List.map_cons, List.map_nil]); first | done | rfl | (simp only [List.length_drop, List.length_take]; rfl)) ?_; (with_reducible refine (dancestudioref23_Check.calls k2 ((rd_T29 l0 x5_2).f0) ((rd_T29 l0 x5_2).f1) ((rd_T29 l0 x5_2).f2) ((rd_T29 l0 x5_2).f3) ((rd_T29 l0 x5_2).f4) ((rd_T29 l0 x5_2).f5) ((rd_T29 l0 x5_2).f6) t142 _ A9.out).mono ?_); rintro e w11 ⟨rfl, hb⟩; refine ⟨_, rfl, ?_⟩; have n0_ := Aside0.mk (below_step (hU HB.out) hb); clear HB; have HB := n0_; clear n0_; (try clear hb); (try clear hb2); (try clear hk); (try clear hi)))
          go_roundg k2
          case measure => have := HJ2.out; have := HK2.out; omega
          case rel => exact ⟨(wrap64 (x5_2 + 1)), (by first | rfl | (simp; done) | (simp [*]; done)), H', ⟨by have := HJ2.out; have := HK2.out; omega⟩, ⟨hU HB.out⟩⟩
         ·rw [if_neg c10] at H
          have c10b0 : (t142 == 0) = false := beq_eq_false_iff_ne.mpr c10
          have c10b1 : (t142 != 0) = true := bne_iff_ne.mpr c10
          obtain rfl := Option.some.inj H
          have p141 : 0 ≤ (x5_2 : Int) := of_decide_eq_true (by first | (with_reducible assumption) | assumption)
          have q141 : x5_2 < (l0.length : Int) := of_decide_eq_true (by first | (with_reducible assumption) | assumption)
          obtain ⟨ad141, e141, hx141_0, hx141_1, hx141_2, hx141_3, hx141_4, hx141_5, hx141_6⟩ := at_T29 HR0.out x5_2 p141 q141
          cases e141
          replace hx141_0 := hbC HB hx141_0
          replace hx141_1 := hbC HB hx141_1
          replace hx141_2 := hbC HB hx141_2
          replace hx141_3 := hbC HB hx141_3
          replace hx141_4 := hbC HB hx141_4
          replace hx141_5 := hbC HB hx141_5
          replace hx141_6 := hbC HB hx141_6
          replace p141 := eq_true p141
          replace q141 := eq_true q141
          go_wp2_with (first | ((with_reducible refine gate_callee (f := 55) rfl ?_); refine goesL_ (some 29) rfl rfl Try.func55 (by kernel_rfl) rfl #[.agg #[.int .i64 ((rd_T29 l0 x5_2).f0), .int .i64 ((rd_T29 l0 x5_2).f1), .int .i64 ((rd_T29 l0 x5_2).f2), .int .i64 ((rd_T29 l0 x5_2).f3), .int .i64 ((rd_T29 l0 x5_2).f4), .int .i64 ((rd_T29 l0 x5_2).f5), .int .i64 ((rd_T29 l0 x5_2).f6)]] rfl (by (try simp only [List.map_toArray, List.map_cons, List.map_nil]); first | done | rfl | (simp only [List.length_drop, List.length_take]; rfl)) ?_; (with_reducible refine (dancestudioref23_Check.calls k2 ((rd_T29 l0 x5_2).f0) ((rd_T29 l0 x5_2).f1) ((rd_T29 l0 x5_2).f2) ((rd_T29 l0 x5_2).f3) ((rd_T29 l0 x5_2).f4) ((rd_T29 l0 x5_2).f5) ((rd_T29 l0 x5_2).f6) t142 _ A9.out).mono ?_); rintro e w12 ⟨rfl, hb⟩; refine ⟨_, rfl, ?_⟩; have n0_ := Aside0.mk (below_step (hU HB.out) hb); clear HB; have HB := n0_; clear n0_; (try clear hb); (try clear hb2); (try clear hk); (try clear hi)))
          go_ret
          exact ⟨by first | rfl | (simp [errW_none, errW_some] <;> rfl) | (simp [*, errW_none, errW_some] <;> rfl), hU HB.out⟩
        ·rw [if_neg c8] at H
         exact absurd H (by simp)
       ·rw [if_neg c7] at H
        have c7b0 : decide (x5_2 < (l0.length : Int)) = false := decide_eq_false c7
        clear c7
        have H' := Aside0.mk H
        clear H
        go_wp2
        go_loopg [7] k2 (fun kq v7 w' => ∃ (x7_3 : Int), v7 = .int .i64 x7_3 ∧ Aside0 (dancestudioref24_Check.l1 kq l0 a1 x7_3 = some r) ∧ Aside0 (kq ≤ k2) ∧ Aside0 (Below w.heap.size w w'))
        case atStart => exact ⟨(1), (by first | rfl | (simp; done) | (simp [*]; done)), H', ⟨Nat.le_refl _⟩, ⟨hU HB.out⟩⟩
        case round =>
         clear H'
         try clear c1
         try clear p1
         try clear q1
         try clear hx1
         try clear c2
         try clear p2
         try clear c4
         try clear c4b0
         try clear c5
         try clear c6
         try clear c6b0
         try clear c6b1
         try clear p6
         try clear c7
         try clear c7b0
         try clear c8
         try clear c8b0
         try clear c10
         try clear c10b0
         try clear c10b1
         try clear hx141_0
         try clear hx141_1
         try clear hx141_2
         try clear hx141_3
         try clear hx141_4
         try clear hx141_5
         try clear hx141_6
         try clear p141
         try clear p2
         try clear q141
         obtain ⟨x7_3, rfl, HA, HK3, HB⟩ := hrel
         cases gk with
         | zero => exact absurd HA.out (by simp [dancestudioref24_Check.l1])
         | succ k3 =>
          have H := HA.out
          clear HA
          simp only [dancestudioref24_Check.l1] at H
          by_cases c13 : x7_3 < (l0.length : Int)
          ·rw [if_pos c13] at H
           have c13b0 : decide (x7_3 < (l0.length : Int)) = true := decide_eq_true c13
           clear c13
           obtain ⟨ji14, hji14⟩ : ∃ j_ : Int, (wrap64 (x7_3 - 1)) = j_ := ⟨_, rfl⟩
           replace H : (if 0 ≤ (ji14) then (if (ji14) < (l0.length : Int) then (if 0 ≤ x7_3 then ((dancestudioref23_Less.f ((rd_T29 l0 (ji14)).f0) ((rd_T29 l0 (ji14)).f1) ((rd_T29 l0 (ji14)).f2) ((rd_T29 l0 (ji14)).f3) ((rd_T29 l0 (ji14)).f4) ((rd_T29 l0 (ji14)).f5) ((rd_T29 l0 (ji14)).f6) ((rd_T29 l0 x7_3).f0) ((rd_T29 l0 x7_3).f1) ((rd_T29 l0 x7_3).f2) ((rd_T29 l0 x7_3).f3) ((rd_T29 l0 x7_3).f4) ((rd_T29 l0 x7_3).f5) ((rd_T29 l0 x7_3).f6)).bind fun t145 => (if t145 = true then (dancestudioref24_Check.l1 k3 l0 a1 (wrap64 (x7_3 + 1))) else (some 5))) else (none)) else (none)) else (none)) = some r := by first | (rw [hji14] at H; exact H) | (simp only [hji14] at H ⊢; exact H)
           have hji14w : (IntKind.i64.wrap (x7_3 - 1)) = ji14 := (i64_w _).trans hji14
           by_cases c15 : 0 ≤ (ji14)
           ·rw [if_pos c15] at H
            have c15b0 : decide (0 ≤ (ji14)) = true := decide_eq_true c15
            clear c15
            by_cases c16 : (ji14) < (l0.length : Int)
            ·rw [if_pos c16] at H
             have c16b0 : decide ((ji14) < (l0.length : Int)) = true := decide_eq_true c16
             clear c16
             by_cases c17 : 0 ≤ x7_3
             ·rw [if_pos c17] at H
              have c17b0 : decide (0 ≤ x7_3) = true := decide_eq_true c17
              clear c17
              replace H := Option.bind_eq_some_iff.mp H
              obtain ⟨t145, A180, H⟩ := H
              replace H : (if t145 = true then (dancestudioref24_Check.l1 k3 l0 a1 (wrap64 (x7_3 + 1))) else (some 5)) = some r := H
              have A18 := Aside0.mk A180
              clear A180
              by_cases c19 : t145 = true
              ·subst c19
               have H1 : (dancestudioref24_Check.l1 k3 l0 a1 (wrap64 (x7_3 + 1))) = some r := by rw [if_pos rfl] at H; exact H
               clear H
               have H := H1
               clear H1
               have H' := Aside0.mk H
               clear H
               try go_wp2
               have n0_ := Aside0.mk (below_drew1 HB.out)
               clear HB
               have HB := n0_
               clear n0_
               have p143 : 0 ≤ ((ji14) : Int) := of_decide_eq_true (by first | (with_reducible assumption) | assumption)
               have q143 : (ji14) < (l0.length : Int) := of_decide_eq_true (by first | (with_reducible assumption) | assumption)
               obtain ⟨ad143, e143, hx143_0, hx143_1, hx143_2, hx143_3, hx143_4, hx143_5, hx143_6⟩ := at_T29 HR0.out (ji14) p143 q143
               have hw143_6 := hx143_6
               have hw143_5 := hx143_5
               have hw143_4 := hx143_4
               have hw143_3 := hx143_3
               have hw143_2 := hx143_2
               have hw143_1 := hx143_1
               have hw143_0 := hx143_0
               cases e143
               replace hx143_0 := hbC HB hx143_0
               replace hx143_1 := hbC HB hx143_1
               replace hx143_2 := hbC HB hx143_2
               replace hx143_3 := hbC HB hx143_3
               replace hx143_4 := hbC HB hx143_4
               replace hx143_5 := hbC HB hx143_5
               replace hx143_6 := hbC HB hx143_6
               replace p143 := eq_true p143
               replace q143 := eq_true q143
               have p144 : 0 ≤ (x7_3 : Int) := of_decide_eq_true (by first | (with_reducible assumption) | assumption)
               have q144 : x7_3 < (l0.length : Int) := of_decide_eq_true (by first | (with_reducible assumption) | assumption)
               obtain ⟨ad144, e144, hx144_0, hx144_1, hx144_2, hx144_3, hx144_4, hx144_5, hx144_6⟩ := at_T29 HR0.out x7_3 p144 q144
               have hw144_6 := hx144_6
               have hw144_5 := hx144_5
               have hw144_4 := hx144_4
               have hw144_3 := hx144_3
               have hw144_2 := hx144_2
               have hw144_1 := hx144_1
               have hw144_0 := hx144_0
               obtain rfl : ad143 = ad144 := (by injection e144)
               replace hx144_0 := hbC HB hx144_0
               replace hx144_1 := hbC HB hx144_1
               replace hx144_2 := hbC HB hx144_2
               replace hx144_3 := hbC HB hx144_3
               replace hx144_4 := hbC HB hx144_4
               replace hx144_5 := hbC HB hx144_5
               replace hx144_6 := hbC HB hx144_6
               replace p144 := eq_true p144
               replace q144 := eq_true q144
               refine start_ (n := 11) (S := fun w' => w'.cell? (ad143.add (((ji14)).toNat * 7)) = some (.int .i64 ((rd_T29 l0 (ji14)).f0)) ∧ w'.cell? ⟨(ad143.add (((ji14)).toNat * 7)).block, (ad143.add (((ji14)).toNat * 7)).off + 1, none⟩ = some (.int .i64 ((rd_T29 l0 (ji14)).f1)) ∧ w'.cell? ⟨(ad143.add (((ji14)).toNat * 7)).block, (ad143.add (((ji14)).toNat * 7)).off + 2, none⟩ = some (.int .i64 ((rd_T29 l0 (ji14)).f2)) ∧ w'.cell? ⟨(ad143.add (((ji14)).toNat * 7)).block, (ad143.add (((ji14)).toNat * 7)).off + 3, none⟩ = some (.int .i64 ((rd_T29 l0 (ji14)).f3)) ∧ w'.cell? ⟨(ad143.add (((ji14)).toNat * 7)).block, (ad143.add (((ji14)).toNat * 7)).off + 4, none⟩ = some (.int .i64 ((rd_T29 l0 (ji14)).f4)) ∧ w'.cell? ⟨(ad143.add (((ji14)).toNat * 7)).block, (ad143.add (((ji14)).toNat * 7)).off + 5, none⟩ = some (.int .i64 ((rd_T29 l0 (ji14)).f5)) ∧ w'.cell? ⟨(ad143.add (((ji14)).toNat * 7)).block, (ad143.add (((ji14)).toNat * 7)).off + 6, none⟩ = some (.int .i64 ((rd_T29 l0 (ji14)).f6)) ∧ w'.cell? (ad143.add ((x7_3).toNat * 7)) = some (.int .i64 ((rd_T29 l0 x7_3).f0)) ∧ w'.cell? ⟨(ad143.add ((x7_3).toNat * 7)).block, (ad143.add ((x7_3).toNat * 7)).off + 1, none⟩ = some (.int .i64 ((rd_T29 l0 x7_3).f1)) ∧ w'.cell? ⟨(ad143.add ((x7_3).toNat * 7)).block, (ad143.add ((x7_3).toNat * 7)).off + 2, none⟩ = some (.int .i64 ((rd_T29 l0 x7_3).f2)) ∧ w'.cell? ⟨(ad143.add ((x7_3).toNat * 7)).block, (ad143.add ((x7_3).toNat * 7)).off + 3, none⟩ = some (.int .i64 ((rd_T29 l0 x7_3).f3)) ∧ w'.cell? ⟨(ad143.add ((x7_3).toNat * 7)).block, (ad143.add ((x7_3).toNat * 7)).off + 4, none⟩ = some (.int .i64 ((rd_T29 l0 x7_3).f4)) ∧ w'.cell? ⟨(ad143.add ((x7_3).toNat * 7)).block, (ad143.add ((x7_3).toNat * 7)).off + 5, none⟩ = some (.int .i64 ((rd_T29 l0 x7_3).f5)) ∧ w'.cell? ⟨(ad143.add ((x7_3).toNat * 7)).block, (ad143.add ((x7_3).toNat * 7)).off + 6, none⟩ = some (.int .i64 ((rd_T29 l0 x7_3).f6))) (ds := []) #[false, false, false, false, false, false, false, false, false, false, false] (by kernel_rfl) rfl rfl ⟨(hbC HB hw143_0), (hbC HB hw143_1), (hbC HB hw143_2), (hbC HB hw143_3), (hbC HB hw143_4), (hbC HB hw143_5), (hbC HB hw143_6), (hbC HB hw144_0), (hbC HB hw144_1), (hbC HB hw144_2), (hbC HB hw144_3), (hbC HB hw144_4), (hbC HB hw144_5), (hbC HB hw144_6)⟩ (fun hHeld => ?_); refine with_tabW dancestudioref24_Check.tab14 dancestudioref24_Check.bits14 (fun HT_ HW_ => ?_)
               generalize wr.drew = w20 at HB hx143_0 hx143_1 hx143_2 hx143_3 hx143_4 hx143_5 hx143_6 hx144_0 hx144_1 hx144_2 hx144_3 hx144_4 hx144_5 hx144_6 hHeld ⊢
               refine puA 0 39 (bs 11 1) ?_
               refine puA 1 40 (bs 11 3) ?_
               refine puA 2 41 (bs 11 7) ?_
               refine puA 3 42 (bs 11 15) ?_
               refine puA 5 44 (bs 11 47) ?_
               refine puA 6 45 (bs 11 111) ?_
               refine puA 7 46 (bs 11 239) ?_
               refine tkA 4 43 (bs 11 255) hHeld ?_
               refine tkA 8 47 (bs 11 511) hHeld ?_
               refine one_ (i := 9) (N := some 48) (bs 11 1023) rfl rfl (one_of HT_.out (by kernel_rfl)) (by decide) (fun K hK => ?_)
               refine goes_ Try.func56 (by kernel_rfl) rfl #[.agg #[.int .i64 ((rd_T29 l0 (ji14)).f0), .int .i64 ((rd_T29 l0 (ji14)).f1), .int .i64 ((rd_T29 l0 (ji14)).f2), .int .i64 ((rd_T29 l0 (ji14)).f3), .int .i64 ((rd_T29 l0 (ji14)).f4), .int .i64 ((rd_T29 l0 (ji14)).f5), .int .i64 ((rd_T29 l0 (ji14)).f6)], .agg #[.int .i64 ((rd_T29 l0 x7_3).f0), .int .i64 ((rd_T29 l0 x7_3).f1), .int .i64 ((rd_T29 l0 x7_3).f2), .int .i64 ((rd_T29 l0 x7_3).f3), .int .i64 ((rd_T29 l0 x7_3).f4), .int .i64 ((rd_T29 l0 x7_3).f5), .int .i64 ((rd_T29 l0 x7_3).f6)]] (by rfl) rfl rfl (by (try simp only [List.map_toArray, List.map_cons, List.map_nil]); first | done | (simp only [hji14]; rfl) | rfl | (simp only [List.length_drop, List.length_take]; rfl)) ?_
               with_reducible refine (dancestudioref23_Less.calls ((rd_T29 l0 (ji14)).f0) ((rd_T29 l0 (ji14)).f1) ((rd_T29 l0 (ji14)).f2) ((rd_T29 l0 (ji14)).f3) ((rd_T29 l0 (ji14)).f4) ((rd_T29 l0 (ji14)).f5) ((rd_T29 l0 (ji14)).f6) ((rd_T29 l0 x7_3).f0) ((rd_T29 l0 x7_3).f1) ((rd_T29 l0 x7_3).f2) ((rd_T29 l0 x7_3).f3) ((rd_T29 l0 x7_3).f4) ((rd_T29 l0 x7_3).f5) ((rd_T29 l0 x7_3).f6) true _ A18.out).mono ?_
               rintro e w21 ⟨rfl, hb⟩
               refine ⟨_, rfl, ?_⟩
               have n0_ := Aside0.mk (below_step (hU HB.out) hb)
               clear HB
               have HB := n0_
               clear n0_
               (try clear hb)
               (try clear hb2)
               (try clear hk)
               (try clear hi)
               refine hK.out _ _ ⟨(hbC HB hw143_0), (hbC HB hw143_1), (hbC HB hw143_2), (hbC HB hw143_3), (hbC HB hw143_4), (hbC HB hw143_5), (hbC HB hw143_6), (hbC HB hw144_0), (hbC HB hw144_1), (hbC HB hw144_2), (hbC HB hw144_3), (hbC HB hw144_4), (hbC HB hw144_5), (hbC HB hw144_6)⟩ (fun hHeld => ?_)
               clear hK K
               refine nmA 48 ?_
               refine puA 10 49 (bs 11 2047) ?_
               refine done_ (done_of HT_.out (by kernel_rfl)) ?_
               try go_wp2
               go_roundg k3
               case measure => have := HJ2.out; have := HK2.out; have := HK3.out; omega
               case rel => exact ⟨(wrap64 (x7_3 + 1)), (by first | rfl | (simp; done) | (simp [*]; done)), H', ⟨by have := HJ2.out; have := HK2.out; have := HK3.out; omega⟩, ⟨hU HB.out⟩⟩
              ·replace c19 := Bool.eq_false_iff.mpr c19
               subst c19
               have H1 : (some 5) = some r := by rw [if_neg (show ¬ (false = true) by decide)] at H; exact H
               clear H
               have H := H1
               clear H1
               obtain rfl := Option.some.inj H
               try go_wp2
               have n0_ := Aside0.mk (below_drew1 HB.out)
               clear HB
               have HB := n0_
               clear n0_
               have p143 : 0 ≤ ((ji14) : Int) := of_decide_eq_true (by first | (with_reducible assumption) | assumption)
               have q143 : (ji14) < (l0.length : Int) := of_decide_eq_true (by first | (with_reducible assumption) | assumption)
               obtain ⟨ad143, e143, hx143_0, hx143_1, hx143_2, hx143_3, hx143_4, hx143_5, hx143_6⟩ := at_T29 HR0.out (ji14) p143 q143
               have hw143_6 := hx143_6
               have hw143_5 := hx143_5
               have hw143_4 := hx143_4
               have hw143_3 := hx143_3
               have hw143_2 := hx143_2
               have hw143_1 := hx143_1
               have hw143_0 := hx143_0
               cases e143
               replace hx143_0 := hbC HB hx143_0
               replace hx143_1 := hbC HB hx143_1
               replace hx143_2 := hbC HB hx143_2
               replace hx143_3 := hbC HB hx143_3
               replace hx143_4 := hbC HB hx143_4
               replace hx143_5 := hbC HB hx143_5
               replace hx143_6 := hbC HB hx143_6
               replace p143 := eq_true p143
               replace q143 := eq_true q143
               have p144 : 0 ≤ (x7_3 : Int) := of_decide_eq_true (by first | (with_reducible assumption) | assumption)
               have q144 : x7_3 < (l0.length : Int) := of_decide_eq_true (by first | (with_reducible assumption) | assumption)
               obtain ⟨ad144, e144, hx144_0, hx144_1, hx144_2, hx144_3, hx144_4, hx144_5, hx144_6⟩ := at_T29 HR0.out x7_3 p144 q144
               have hw144_6 := hx144_6
               have hw144_5 := hx144_5
               have hw144_4 := hx144_4
               have hw144_3 := hx144_3
               have hw144_2 := hx144_2
               have hw144_1 := hx144_1
               have hw144_0 := hx144_0
               obtain rfl : ad143 = ad144 := (by injection e144)
               replace hx144_0 := hbC HB hx144_0
               replace hx144_1 := hbC HB hx144_1
               replace hx144_2 := hbC HB hx144_2
               replace hx144_3 := hbC HB hx144_3
               replace hx144_4 := hbC HB hx144_4
               replace hx144_5 := hbC HB hx144_5
               replace hx144_6 := hbC HB hx144_6
               replace p144 := eq_true p144
               replace q144 := eq_true q144
               refine start_ (n := 11) (S := fun w' => w'.cell? (ad143.add (((ji14)).toNat * 7)) = some (.int .i64 ((rd_T29 l0 (ji14)).f0)) ∧ w'.cell? ⟨(ad143.add (((ji14)).toNat * 7)).block, (ad143.add (((ji14)).toNat * 7)).off + 1, none⟩ = some (.int .i64 ((rd_T29 l0 (ji14)).f1)) ∧ w'.cell? ⟨(ad143.add (((ji14)).toNat * 7)).block, (ad143.add (((ji14)).toNat * 7)).off + 2, none⟩ = some (.int .i64 ((rd_T29 l0 (ji14)).f2)) ∧ w'.cell? ⟨(ad143.add (((ji14)).toNat * 7)).block, (ad143.add (((ji14)).toNat * 7)).off + 3, none⟩ = some (.int .i64 ((rd_T29 l0 (ji14)).f3)) ∧ w'.cell? ⟨(ad143.add (((ji14)).toNat * 7)).block, (ad143.add (((ji14)).toNat * 7)).off + 4, none⟩ = some (.int .i64 ((rd_T29 l0 (ji14)).f4)) ∧ w'.cell? ⟨(ad143.add (((ji14)).toNat * 7)).block, (ad143.add (((ji14)).toNat * 7)).off + 5, none⟩ = some (.int .i64 ((rd_T29 l0 (ji14)).f5)) ∧ w'.cell? ⟨(ad143.add (((ji14)).toNat * 7)).block, (ad143.add (((ji14)).toNat * 7)).off + 6, none⟩ = some (.int .i64 ((rd_T29 l0 (ji14)).f6)) ∧ w'.cell? (ad143.add ((x7_3).toNat * 7)) = some (.int .i64 ((rd_T29 l0 x7_3).f0)) ∧ w'.cell? ⟨(ad143.add ((x7_3).toNat * 7)).block, (ad143.add ((x7_3).toNat * 7)).off + 1, none⟩ = some (.int .i64 ((rd_T29 l0 x7_3).f1)) ∧ w'.cell? ⟨(ad143.add ((x7_3).toNat * 7)).block, (ad143.add ((x7_3).toNat * 7)).off + 2, none⟩ = some (.int .i64 ((rd_T29 l0 x7_3).f2)) ∧ w'.cell? ⟨(ad143.add ((x7_3).toNat * 7)).block, (ad143.add ((x7_3).toNat * 7)).off + 3, none⟩ = some (.int .i64 ((rd_T29 l0 x7_3).f3)) ∧ w'.cell? ⟨(ad143.add ((x7_3).toNat * 7)).block, (ad143.add ((x7_3).toNat * 7)).off + 4, none⟩ = some (.int .i64 ((rd_T29 l0 x7_3).f4)) ∧ w'.cell? ⟨(ad143.add ((x7_3).toNat * 7)).block, (ad143.add ((x7_3).toNat * 7)).off + 5, none⟩ = some (.int .i64 ((rd_T29 l0 x7_3).f5)) ∧ w'.cell? ⟨(ad143.add ((x7_3).toNat * 7)).block, (ad143.add ((x7_3).toNat * 7)).off + 6, none⟩ = some (.int .i64 ((rd_T29 l0 x7_3).f6))) (ds := []) #[false, false, false, false, false, false, false, false, false, false, false] (by kernel_rfl) rfl rfl ⟨(hbC HB hw143_0), (hbC HB hw143_1), (hbC HB hw143_2), (hbC HB hw143_3), (hbC HB hw143_4), (hbC HB hw143_5), (hbC HB hw143_6), (hbC HB hw144_0), (hbC HB hw144_1), (hbC HB hw144_2), (hbC HB hw144_3), (hbC HB hw144_4), (hbC HB hw144_5), (hbC HB hw144_6)⟩ (fun hHeld => ?_); refine with_tabW dancestudioref24_Check.tab14 dancestudioref24_Check.bits14 (fun HT_ HW_ => ?_)
               generalize wr.drew = w22 at HB hx143_0 hx143_1 hx143_2 hx143_3 hx143_4 hx143_5 hx143_6 hx144_0 hx144_1 hx144_2 hx144_3 hx144_4 hx144_5 hx144_6 hHeld ⊢
               refine puA 0 39 (bs 11 1) ?_
               refine puA 1 40 (bs 11 3) ?_
               refine puA 2 41 (bs 11 7) ?_
               refine puA 3 42 (bs 11 15) ?_
               refine puA 5 44 (bs 11 47) ?_
               refine puA 6 45 (bs 11 111) ?_
               refine puA 7 46 (bs 11 239) ?_
               refine tkA 4 43 (bs 11 255) hHeld ?_
               refine tkA 8 47 (bs 11 511) hHeld ?_
               refine one_ (i := 9) (N := some 48) (bs 11 1023) rfl rfl (one_of HT_.out (by kernel_rfl)) (by decide) (fun K hK => ?_)
               refine goes_ Try.func56 (by kernel_rfl) rfl #[.agg #[.int .i64 ((rd_T29 l0 (ji14)).f0), .int .i64 ((rd_T29 l0 (ji14)).f1), .int .i64 ((rd_T29 l0 (ji14)).f2), .int .i64 ((rd_T29 l0 (ji14)).f3), .int .i64 ((rd_T29 l0 (ji14)).f4), .int .i64 ((rd_T29 l0 (ji14)).f5), .int .i64 ((rd_T29 l0 (ji14)).f6)], .agg #[.int .i64 ((rd_T29 l0 x7_3).f0), .int .i64 ((rd_T29 l0 x7_3).f1), .int .i64 ((rd_T29 l0 x7_3).f2), .int .i64 ((rd_T29 l0 x7_3).f3), .int .i64 ((rd_T29 l0 x7_3).f4), .int .i64 ((rd_T29 l0 x7_3).f5), .int .i64 ((rd_T29 l0 x7_3).f6)]] (by rfl) rfl rfl (by (try simp only [List.map_toArray, List.map_cons, List.map_nil]); first | done | (simp only [hji14]; rfl) | rfl | (simp only [List.length_drop, List.length_take]; rfl)) ?_
               with_reducible refine (dancestudioref23_Less.calls ((rd_T29 l0 (ji14)).f0) ((rd_T29 l0 (ji14)).f1) ((rd_T29 l0 (ji14)).f2) ((rd_T29 l0 (ji14)).f3) ((rd_T29 l0 (ji14)).f4) ((rd_T29 l0 (ji14)).f5) ((rd_T29 l0 (ji14)).f6) ((rd_T29 l0 x7_3).f0) ((rd_T29 l0 x7_3).f1) ((rd_T29 l0 x7_3).f2) ((rd_T29 l0 x7_3).f3) ((rd_T29 l0 x7_3).f4) ((rd_T29 l0 x7_3).f5) ((rd_T29 l0 x7_3).f6) false _ A18.out).mono ?_
               rintro e w23 ⟨rfl, hb⟩
               refine ⟨_, rfl, ?_⟩
               have n0_ := Aside0.mk (below_step (hU HB.out) hb)
               clear HB
               have HB := n0_
               clear n0_
               (try clear hb)
               (try clear hb2)
               (try clear hk)
               (try clear hi)
               refine hK.out _ _ ⟨(hbC HB hw143_0), (hbC HB hw143_1), (hbC HB hw143_2), (hbC HB hw143_3), (hbC HB hw143_4), (hbC HB hw143_5), (hbC HB hw143_6), (hbC HB hw144_0), (hbC HB hw144_1), (hbC HB hw144_2), (hbC HB hw144_3), (hbC HB hw144_4), (hbC HB hw144_5), (hbC HB hw144_6)⟩ (fun hHeld => ?_)
               clear hK K
               refine nmA 48 ?_
               refine puA 10 49 (bs 11 2047) ?_
               refine done_ (done_of HT_.out (by kernel_rfl)) ?_
               try go_wp2
               go_ret
               exact ⟨by first | rfl | (simp [errW_none, errW_some] <;> rfl) | (simp only [← hji14]; first | rfl | (simp [errW_none, errW_some] <;> rfl)) | (simp [*, errW_none, errW_some] <;> rfl), hU HB.out⟩
             ·rw [if_neg c17] at H
              exact absurd H (by simp)
            ·rw [if_neg c16] at H
             exact absurd H (by simp)
           ·rw [if_neg c15] at H
            exact absurd H (by simp)
          ·rw [if_neg c13] at H
           have c13b0 : decide (x7_3 < (l0.length : Int)) = false := decide_eq_false c13
           clear c13
           have H' := Aside0.mk H
           clear H
           go_wp2
           go_loopg [8] k3 (fun kq v8 w' => ∃ (x8_4 : Int), v8 = .int .i64 x8_4 ∧ Aside0 (dancestudioref24_Check.l2 kq l0 a1 x8_4 = some r) ∧ Aside0 (kq ≤ k3) ∧ Aside0 (Below w.heap.size w w'))
           case atStart => exact ⟨(0), (by first | rfl | (simp; done) | (simp [*]; done)), H', ⟨Nat.le_refl _⟩, ⟨hU HB.out⟩⟩
           case round =>
            clear H'
            try clear c1
            try clear p1
            try clear q1
            try clear hx1
            try clear c2
            try clear p2
            try clear c4
            try clear c4b0
            try clear c5
            try clear c6
            try clear c6b0
            try clear c6b1
            try clear p6
            try clear c7
            try clear c7b0
            try clear c8
            try clear c8b0
            try clear c10
            try clear c10b0
            try clear c10b1
            try clear c13
            try clear c13b0
            try clear p14
            try clear q14
            try clear hx14
            try clear c15
            try clear c15b0
            try clear c16
            try clear c16b0
            try clear c17
            try clear c17b0
            try clear c19
            try clear c21
            try clear hx141_0
            try clear hx141_1
            try clear hx141_2
            try clear hx141_3
            try clear hx141_4
            try clear hx141_5
            try clear hx141_6
            try clear hx143_0
            try clear hx143_1
            try clear hx143_2
            try clear hx143_3
            try clear hx143_4
            try clear hx143_5
            try clear hx143_6
            try clear hx144_0
            try clear hx144_1
            try clear hx144_2
            try clear hx144_3
            try clear hx144_4
            try clear hx144_5
            try clear hx144_6
            try clear p1
            try clear p141
            try clear p143
            try clear p144
            try clear p2
            try clear p6
            try clear q1
            try clear q141
            try clear q143
            try clear q144
            obtain ⟨x8_4, rfl, HA, HK4, HB⟩ := hrel
            cases gk with
            | zero => exact absurd HA.out (by simp [dancestudioref24_Check.l2])
            | succ k4 =>
             have H := HA.out
             clear HA
             simp only [dancestudioref24_Check.l2] at H
             by_cases c24 : x8_4 < (l0.length : Int)
             ·rw [if_pos c24] at H
              have c24b0 : decide (x8_4 < (l0.length : Int)) = true := decide_eq_true c24
              clear c24
              by_cases c25 : 0 ≤ x8_4
              ·rw [if_pos c25] at H
               have c25b0 : decide (0 ≤ x8_4) = true := decide_eq_true c25
               clear c25
               replace H := Option.bind_eq_some_iff.mp H
               obtain ⟨t147, A260, H⟩ := H
               replace H : (if t147 > a1 then (some 1) else (dancestudioref24_Check.l3 k4 l0 a1 x8_4 0)) = some r := H
               have A26 := Aside0.mk A260
               clear A260
               by_cases c27 : t147 > a1
               ·rw [if_pos c27] at H
                have c27b0 : decide (a1 < t147) = true := decide_eq_true c27
                clear c27
                obtain rfl := Option.some.inj H
                have p146 : 0 ≤ (x8_4 : Int) := of_decide_eq_true (by first | (with_reducible assumption) | assumption)
                have q146 : x8_4 < (l0.length : Int) := of_decide_eq_true (by first | (with_reducible assumption) | assumption)
                obtain ⟨ad146, e146, hx146_0, hx146_1, hx146_2, hx146_3, hx146_4, hx146_5, hx146_6⟩ := at_T29 HR0.out x8_4 p146 q146
                cases e146
                replace hx146_0 := hbC HB hx146_0
                replace hx146_1 := hbC HB hx146_1
                replace hx146_2 := hbC HB hx146_2
                replace hx146_3 := hbC HB hx146_3
                replace hx146_4 := hbC HB hx146_4
                replace hx146_5 := hbC HB hx146_5
                replace hx146_6 := hbC HB hx146_6
                replace p146 := eq_true p146
                replace q146 := eq_true q146
                go_wp2_with (first | ((with_reducible refine gate_callee (f := 57) rfl ?_); refine goesL_ (some 60) rfl rfl Try.func57 (by kernel_rfl) rfl #[.agg #[.int .i64 ((rd_T29 l0 x8_4).f0), .int .i64 ((rd_T29 l0 x8_4).f1), .int .i64 ((rd_T29 l0 x8_4).f2), .int .i64 ((rd_T29 l0 x8_4).f3), .int .i64 ((rd_T29 l0 x8_4).f4), .int .i64 ((rd_T29 l0 x8_4).f5), .int .i64 ((rd_T29 l0 x8_4).f6)]] rfl (by (try simp only [List.map_toArray, List.map_cons, List.map_nil]); first | done | rfl | (simp only [List.length_drop, List.length_take]; rfl)) ?_; (with_reducible refine (dancestudioref24_end.calls ((rd_T29 l0 x8_4).f0) ((rd_T29 l0 x8_4).f1) ((rd_T29 l0 x8_4).f2) ((rd_T29 l0 x8_4).f3) ((rd_T29 l0 x8_4).f4) ((rd_T29 l0 x8_4).f5) ((rd_T29 l0 x8_4).f6) t147 _ A26.out).mono ?_); rintro e w28 ⟨rfl, hb⟩; refine ⟨_, rfl, ?_⟩; have n0_ := Aside0.mk (below_step (hU HB.out) hb); clear HB; have HB := n0_; clear n0_; (try clear hb); (try clear hb2); (try clear hk); (try clear hi)))
                go_ret
                exact ⟨by first | rfl | (simp [errW_none, errW_some] <;> rfl) | (simp [*, errW_none, errW_some] <;> rfl), hU HB.out⟩
               ·rw [if_neg c27] at H
                have c27b0 : decide (a1 < t147) = false := decide_eq_false c27
                clear c27
                have H' := Aside0.mk H
                clear H
                have p146 : 0 ≤ (x8_4 : Int) := of_decide_eq_true (by first | (with_reducible assumption) | assumption)
                have q146 : x8_4 < (l0.length : Int) := of_decide_eq_true (by first | (with_reducible assumption) | assumption)
                obtain ⟨ad146, e146, hx146_0, hx146_1, hx146_2, hx146_3, hx146_4, hx146_5, hx146_6⟩ := at_T29 HR0.out x8_4 p146 q146
                cases e146
                replace hx146_0 := hbC HB hx146_0
                replace hx146_1 := hbC HB hx146_1
                replace hx146_2 := hbC HB hx146_2
                replace hx146_3 := hbC HB hx146_3
                replace hx146_4 := hbC HB hx146_4
                replace hx146_5 := hbC HB hx146_5
                replace hx146_6 := hbC HB hx146_6
                replace p146 := eq_true p146
                replace q146 := eq_true q146
                go_wp2_with (first | ((with_reducible refine gate_callee (f := 57) rfl ?_); refine goesL_ (some 60) rfl rfl Try.func57 (by kernel_rfl) rfl #[.agg #[.int .i64 ((rd_T29 l0 x8_4).f0), .int .i64 ((rd_T29 l0 x8_4).f1), .int .i64 ((rd_T29 l0 x8_4).f2), .int .i64 ((rd_T29 l0 x8_4).f3), .int .i64 ((rd_T29 l0 x8_4).f4), .int .i64 ((rd_T29 l0 x8_4).f5), .int .i64 ((rd_T29 l0 x8_4).f6)]] rfl (by (try simp only [List.map_toArray, List.map_cons, List.map_nil]); first | done | rfl | (simp only [List.length_drop, List.length_take]; rfl)) ?_; (with_reducible refine (dancestudioref24_end.calls ((rd_T29 l0 x8_4).f0) ((rd_T29 l0 x8_4).f1) ((rd_T29 l0 x8_4).f2) ((rd_T29 l0 x8_4).f3) ((rd_T29 l0 x8_4).f4) ((rd_T29 l0 x8_4).f5) ((rd_T29 l0 x8_4).f6) t147 _ A26.out).mono ?_); rintro e w29 ⟨rfl, hb⟩; refine ⟨_, rfl, ?_⟩; have n0_ := Aside0.mk (below_step (hU HB.out) hb); clear HB; have HB := n0_; clear n0_; (try clear hb); (try clear hb2); (try clear hk); (try clear hi)))
                go_loopg [9] k4 (fun kq v9 w' => ∃ (x9_5 : Int), v9 = .int .i64 x9_5 ∧ Aside0 (dancestudioref24_Check.l3 kq l0 a1 x8_4 x9_5 = some r) ∧ Aside0 (kq ≤ k4) ∧ Aside0 (Below w.heap.size w w'))
                case atStart => exact ⟨(0), (by first | rfl | (simp; done) | (simp [*]; done)), H', ⟨Nat.le_refl _⟩, ⟨hU HB.out⟩⟩
                case round =>
                 clear H'
                 try clear c1
                 try clear p1
                 try clear q1
                 try clear hx1
                 try clear c2
                 try clear p2
                 try clear c4
                 try clear c4b0
                 try clear c5
                 try clear c6
                 try clear c6b0
                 try clear c6b1
                 try clear p6
                 try clear c7
                 try clear c7b0
                 try clear c8
                 try clear c8b0
                 try clear c10
                 try clear c10b0
                 try clear c10b1
                 try clear c13
                 try clear c13b0
                 try clear p14
                 try clear q14
                 try clear hx14
                 try clear c15
                 try clear c15b0
                 try clear c16
                 try clear c16b0
                 try clear c17
                 try clear c17b0
                 try clear c19
                 try clear c21
                 try clear c24
                 try clear c24b0
                 try clear c25
                 try clear c25b0
                 try clear c27
                 try clear c27b0
                 try clear hx141_0
                 try clear hx141_1
                 try clear hx141_2
                 try clear hx141_3
                 try clear hx141_4
                 try clear hx141_5
                 try clear hx141_6
                 try clear hx143_0
                 try clear hx143_1
                 try clear hx143_2
                 try clear hx143_3
                 try clear hx143_4
                 try clear hx143_5
                 try clear hx143_6
                 try clear hx144_0
                 try clear hx144_1
                 try clear hx144_2
                 try clear hx144_3
                 try clear hx144_4
                 try clear hx144_5
                 try clear hx144_6
                 try clear hx146_0
                 try clear hx146_1
                 try clear hx146_2
                 try clear hx146_3
                 try clear hx146_4
                 try clear hx146_5
                 try clear hx146_6
                 try clear p1
                 try clear p14
                 try clear p141
                 try clear p143
                 try clear p144
                 try clear p146
                 try clear p2
                 try clear p6
                 try clear q1
                 try clear q14
                 try clear q141
                 try clear q143
                 try clear q144
                 try clear q146
                 obtain ⟨x9_5, rfl, HA, HK5, HB⟩ := hrel
                 cases gk with
                 | zero => exact absurd HA.out (by simp [dancestudioref24_Check.l3])
                 | succ k5 =>
                  have H := HA.out
                  clear HA
                  simp only [dancestudioref24_Check.l3] at H
                  by_cases c30 : x9_5 < x8_4
                  ·rw [if_pos c30] at H
                   have c30b0 : decide (x9_5 < x8_4) = true := decide_eq_true c30
                   clear c30
                   by_cases c31 : 0 ≤ x9_5
                   ·rw [if_pos c31] at H
                    have c31b0 : decide (0 ≤ x9_5) = true := decide_eq_true c31
                    clear c31
                    by_cases c32 : x9_5 < (l0.length : Int)
                    ·rw [if_pos c32] at H
                     have c32b0 : decide (x9_5 < (l0.length : Int)) = true := decide_eq_true c32
                     clear c32
                     by_cases c33 : 0 ≤ x8_4
                     ·rw [if_pos c33] at H
                      have c33b0 : decide (0 ≤ x8_4) = true := decide_eq_true c33
                      clear c33
                      by_cases c34 : x8_4 < (l0.length : Int)
                      ·rw [if_pos c34] at H
                       have c34b0 : decide (x8_4 < (l0.length : Int)) = true := decide_eq_true c34
                       clear c34
                       by_cases c35 : ((rd_T29 l0 x9_5).f1) = ((rd_T29 l0 x8_4).f1)
                       ·rw [if_pos c35] at H
                        have c35b0 : (((rd_T29 l0 x9_5).f1) == ((rd_T29 l0 x8_4).f1)) = true := beq_iff_eq.mpr c35
                        have c35b1 : (((rd_T29 l0 x9_5).f1) != ((rd_T29 l0 x8_4).f1)) = false := bne_eq_false_iff_eq.mpr c35
                        clear c35
                        replace H := Option.bind_eq_some_iff.mp H
                        obtain ⟨t151, A360, H⟩ := H
                        replace H : (if t151 > ((rd_T29 l0 x8_4).f2) then (some 17) else (dancestudioref24_Check.l3 k5 l0 a1 x8_4 (wrap64 (x9_5 + 1)))) = some r := H
                        have A36 := Aside0.mk A360
                        clear A360
                        by_cases c37 : t151 > ((rd_T29 l0 x8_4).f2)
                        ·rw [if_pos c37] at H
                         have c37b0 : decide (((rd_T29 l0 x8_4).f2) < t151) = true := decide_eq_true c37
                         clear c37
                         obtain rfl := Option.some.inj H
                         try go_wp2
                         have n0_ := Aside0.mk (below_drew1 HB.out)
                         clear HB
                         have HB := n0_
                         clear n0_
                         have p148 : 0 ≤ (x9_5 : Int) := of_decide_eq_true (by first | (with_reducible assumption) | assumption)
                         have q148 : x9_5 < (l0.length : Int) := of_decide_eq_true (by first | (with_reducible assumption) | assumption)
                         obtain ⟨ad148, e148, hx148_0, hx148_1, hx148_2, hx148_3, hx148_4, hx148_5, hx148_6⟩ := at_T29 HR0.out x9_5 p148 q148
                         have hw148_6 := hx148_6
                         have hw148_5 := hx148_5
                         have hw148_4 := hx148_4
                         have hw148_3 := hx148_3
                         have hw148_2 := hx148_2
                         have hw148_1 := hx148_1
                         have hw148_0 := hx148_0
                         obtain rfl : ad146 = ad148 := (by injection e148)
                         replace hx148_0 := hbC HB hx148_0
                         replace hx148_1 := hbC HB hx148_1
                         replace hx148_2 := hbC HB hx148_2
                         replace hx148_3 := hbC HB hx148_3
                         replace hx148_4 := hbC HB hx148_4
                         replace hx148_5 := hbC HB hx148_5
                         replace hx148_6 := hbC HB hx148_6
                         replace p148 := eq_true p148
                         replace q148 := eq_true q148
                         have p149 : 0 ≤ (x8_4 : Int) := of_decide_eq_true (by first | (with_reducible assumption) | assumption)
                         have q149 : x8_4 < (l0.length : Int) := of_decide_eq_true (by first | (with_reducible assumption) | assumption)
                         obtain ⟨ad149, e149, hx149_0, hx149_1, hx149_2, hx149_3, hx149_4, hx149_5, hx149_6⟩ := at_T29 HR0.out x8_4 p149 q149
                         have hw149_6 := hx149_6
                         have hw149_5 := hx149_5
                         have hw149_4 := hx149_4
                         have hw149_3 := hx149_3
                         have hw149_2 := hx149_2
                         have hw149_1 := hx149_1
                         have hw149_0 := hx149_0
                         obtain rfl : ad146 = ad149 := (by injection e149)
                         replace hx149_0 := hbC HB hx149_0
                         replace hx149_1 := hbC HB hx149_1
                         replace hx149_2 := hbC HB hx149_2
                         replace hx149_3 := hbC HB hx149_3
                         replace hx149_4 := hbC HB hx149_4
                         replace hx149_5 := hbC HB hx149_5
                         replace hx149_6 := hbC HB hx149_6
                         replace p149 := eq_true p149
                         replace q149 := eq_true q149
                         have p150 : 0 ≤ (x9_5 : Int) := of_decide_eq_true (by first | (with_reducible assumption) | assumption)
                         have q150 : x9_5 < (l0.length : Int) := of_decide_eq_true (by first | (with_reducible assumption) | assumption)
                         obtain ⟨ad150, e150, hx150_0, hx150_1, hx150_2, hx150_3, hx150_4, hx150_5, hx150_6⟩ := at_T29 HR0.out x9_5 p150 q150
                         have hw150_6 := hx150_6
                         have hw150_5 := hx150_5
                         have hw150_4 := hx150_4
                         have hw150_3 := hx150_3
                         have hw150_2 := hx150_2
                         have hw150_1 := hx150_1
                         have hw150_0 := hx150_0
                         obtain rfl : ad146 = ad150 := (by injection e150)
                         replace hx150_0 := hbC HB hx150_0
                         replace hx150_1 := hbC HB hx150_1
                         replace hx150_2 := hbC HB hx150_2
                         replace hx150_3 := hbC HB hx150_3
                         replace hx150_4 := hbC HB hx150_4
                         replace hx150_5 := hbC HB hx150_5
                         replace hx150_6 := hbC HB hx150_6
                         replace p150 := eq_true p150
                         replace q150 := eq_true q150
                         have p152 : 0 ≤ (x8_4 : Int) := of_decide_eq_true (by first | (with_reducible assumption) | assumption)
                         have q152 : x8_4 < (l0.length : Int) := of_decide_eq_true (by first | (with_reducible assumption) | assumption)
                         obtain ⟨ad152, e152, hx152_0, hx152_1, hx152_2, hx152_3, hx152_4, hx152_5, hx152_6⟩ := at_T29 HR0.out x8_4 p152 q152
                         have hw152_6 := hx152_6
                         have hw152_5 := hx152_5
                         have hw152_4 := hx152_4
                         have hw152_3 := hx152_3
                         have hw152_2 := hx152_2
                         have hw152_1 := hx152_1
                         have hw152_0 := hx152_0
                         obtain rfl : ad146 = ad152 := (by injection e152)
                         replace hx152_0 := hbC HB hx152_0
                         replace hx152_1 := hbC HB hx152_1
                         replace hx152_2 := hbC HB hx152_2
                         replace hx152_3 := hbC HB hx152_3
                         replace hx152_4 := hbC HB hx152_4
                         replace hx152_5 := hbC HB hx152_5
                         replace hx152_6 := hbC HB hx152_6
                         replace p152 := eq_true p152
                         replace q152 := eq_true q152
                         refine start_ (n := 24) (S := fun w' => w'.cell? (ad146.add ((x9_5).toNat * 7)) = some (.int .i64 ((rd_T29 l0 x9_5).f0)) ∧ w'.cell? ⟨(ad146.add ((x9_5).toNat * 7)).block, (ad146.add ((x9_5).toNat * 7)).off + 1, none⟩ = some (.int .i64 ((rd_T29 l0 x9_5).f1)) ∧ w'.cell? ⟨(ad146.add ((x9_5).toNat * 7)).block, (ad146.add ((x9_5).toNat * 7)).off + 2, none⟩ = some (.int .i64 ((rd_T29 l0 x9_5).f2)) ∧ w'.cell? ⟨(ad146.add ((x9_5).toNat * 7)).block, (ad146.add ((x9_5).toNat * 7)).off + 3, none⟩ = some (.int .i64 ((rd_T29 l0 x9_5).f3)) ∧ w'.cell? ⟨(ad146.add ((x9_5).toNat * 7)).block, (ad146.add ((x9_5).toNat * 7)).off + 4, none⟩ = some (.int .i64 ((rd_T29 l0 x9_5).f4)) ∧ w'.cell? ⟨(ad146.add ((x9_5).toNat * 7)).block, (ad146.add ((x9_5).toNat * 7)).off + 5, none⟩ = some (.int .i64 ((rd_T29 l0 x9_5).f5)) ∧ w'.cell? ⟨(ad146.add ((x9_5).toNat * 7)).block, (ad146.add ((x9_5).toNat * 7)).off + 6, none⟩ = some (.int .i64 ((rd_T29 l0 x9_5).f6)) ∧ w'.cell? (ad146.add ((x8_4).toNat * 7)) = some (.int .i64 ((rd_T29 l0 x8_4).f0)) ∧ w'.cell? ⟨(ad146.add ((x8_4).toNat * 7)).block, (ad146.add ((x8_4).toNat * 7)).off + 1, none⟩ = some (.int .i64 ((rd_T29 l0 x8_4).f1)) ∧ w'.cell? ⟨(ad146.add ((x8_4).toNat * 7)).block, (ad146.add ((x8_4).toNat * 7)).off + 2, none⟩ = some (.int .i64 ((rd_T29 l0 x8_4).f2)) ∧ w'.cell? ⟨(ad146.add ((x8_4).toNat * 7)).block, (ad146.add ((x8_4).toNat * 7)).off + 3, none⟩ = some (.int .i64 ((rd_T29 l0 x8_4).f3)) ∧ w'.cell? ⟨(ad146.add ((x8_4).toNat * 7)).block, (ad146.add ((x8_4).toNat * 7)).off + 4, none⟩ = some (.int .i64 ((rd_T29 l0 x8_4).f4)) ∧ w'.cell? ⟨(ad146.add ((x8_4).toNat * 7)).block, (ad146.add ((x8_4).toNat * 7)).off + 5, none⟩ = some (.int .i64 ((rd_T29 l0 x8_4).f5)) ∧ w'.cell? ⟨(ad146.add ((x8_4).toNat * 7)).block, (ad146.add ((x8_4).toNat * 7)).off + 6, none⟩ = some (.int .i64 ((rd_T29 l0 x8_4).f6)) ∧ w'.cell? (ad146.add ((x9_5).toNat * 7)) = some (.int .i64 ((rd_T29 l0 x9_5).f0)) ∧ w'.cell? ⟨(ad146.add ((x9_5).toNat * 7)).block, (ad146.add ((x9_5).toNat * 7)).off + 1, none⟩ = some (.int .i64 ((rd_T29 l0 x9_5).f1)) ∧ w'.cell? ⟨(ad146.add ((x9_5).toNat * 7)).block, (ad146.add ((x9_5).toNat * 7)).off + 2, none⟩ = some (.int .i64 ((rd_T29 l0 x9_5).f2)) ∧ w'.cell? ⟨(ad146.add ((x9_5).toNat * 7)).block, (ad146.add ((x9_5).toNat * 7)).off + 3, none⟩ = some (.int .i64 ((rd_T29 l0 x9_5).f3)) ∧ w'.cell? ⟨(ad146.add ((x9_5).toNat * 7)).block, (ad146.add ((x9_5).toNat * 7)).off + 4, none⟩ = some (.int .i64 ((rd_T29 l0 x9_5).f4)) ∧ w'.cell? ⟨(ad146.add ((x9_5).toNat * 7)).block, (ad146.add ((x9_5).toNat * 7)).off + 5, none⟩ = some (.int .i64 ((rd_T29 l0 x9_5).f5)) ∧ w'.cell? ⟨(ad146.add ((x9_5).toNat * 7)).block, (ad146.add ((x9_5).toNat * 7)).off + 6, none⟩ = some (.int .i64 ((rd_T29 l0 x9_5).f6)) ∧ w'.cell? (ad146.add ((x8_4).toNat * 7)) = some (.int .i64 ((rd_T29 l0 x8_4).f0)) ∧ w'.cell? ⟨(ad146.add ((x8_4).toNat * 7)).block, (ad146.add ((x8_4).toNat * 7)).off + 1, none⟩ = some (.int .i64 ((rd_T29 l0 x8_4).f1)) ∧ w'.cell? ⟨(ad146.add ((x8_4).toNat * 7)).block, (ad146.add ((x8_4).toNat * 7)).off + 2, none⟩ = some (.int .i64 ((rd_T29 l0 x8_4).f2)) ∧ w'.cell? ⟨(ad146.add ((x8_4).toNat * 7)).block, (ad146.add ((x8_4).toNat * 7)).off + 3, none⟩ = some (.int .i64 ((rd_T29 l0 x8_4).f3)) ∧ w'.cell? ⟨(ad146.add ((x8_4).toNat * 7)).block, (ad146.add ((x8_4).toNat * 7)).off + 4, none⟩ = some (.int .i64 ((rd_T29 l0 x8_4).f4)) ∧ w'.cell? ⟨(ad146.add ((x8_4).toNat * 7)).block, (ad146.add ((x8_4).toNat * 7)).off + 5, none⟩ = some (.int .i64 ((rd_T29 l0 x8_4).f5)) ∧ w'.cell? ⟨(ad146.add ((x8_4).toNat * 7)).block, (ad146.add ((x8_4).toNat * 7)).off + 6, none⟩ = some (.int .i64 ((rd_T29 l0 x8_4).f6))) (ds := []) #[false, false, false, false, false, false, false, false, false, false, false, false, false, false, false, false, false, false, false, false, false, false, false, false] (by kernel_rfl) rfl rfl ⟨(hbC HB hw148_0), (hbC HB hw148_1), (hbC HB hw148_2), (hbC HB hw148_3), (hbC HB hw148_4), (hbC HB hw148_5), (hbC HB hw148_6), (hbC HB hw149_0), (hbC HB hw149_1), (hbC HB hw149_2), (hbC HB hw149_3), (hbC HB hw149_4), (hbC HB hw149_5), (hbC HB hw149_6), (hbC HB hw150_0), (hbC HB hw150_1), (hbC HB hw150_2), (hbC HB hw150_3), (hbC HB hw150_4), (hbC HB hw150_5), (hbC HB hw150_6), (hbC HB hw152_0), (hbC HB hw152_1), (hbC HB hw152_2), (hbC HB hw152_3), (hbC HB hw152_4), (hbC HB hw152_5), (hbC HB hw152_6)⟩ (fun hHeld => ?_); refine with_tabW dancestudioref24_Check.tab24 dancestudioref24_Check.bits24 (fun HT_ HW_ => ?_)
                         generalize wr.drew = w38 at HB hx148_0 hx148_1 hx148_2 hx148_3 hx148_4 hx148_5 hx148_6 hx149_0 hx149_1 hx149_2 hx149_3 hx149_4 hx149_5 hx149_6 hx150_0 hx150_1 hx150_2 hx150_3 hx150_4 hx150_5 hx150_6 hx152_0 hx152_1 hx152_2 hx152_3 hx152_4 hx152_5 hx152_6 hHeld ⊢
                         refine puA 0 68 (bs 24 1) ?_
                         refine puA 1 69 (bs 24 3) ?_
                         refine puA 2 70 (bs 24 7) ?_
                         refine puA 3 71 (bs 24 15) ?_
                         refine puA 5 73 (bs 24 47) ?_
                         refine puA 6 74 (bs 24 111) ?_
                         refine puA 7 75 (bs 24 239) ?_
                         refine puA 8 76 (bs 24 495) ?_
                         refine tkA 4 72 (bs 24 511) hHeld ?_
                         refine tkA 9 77 (bs 24 1023) hHeld ?_
                         refine puA 10 78 (bs 24 2047) ?_
                         refine puA 11 79 (bs 24 4095) ?_
                         refine puA 12 80 (bs 24 8191) ?_
                         refine puA 13 81 (bs 24 16383) ?_
                         refine puA 14 82 (bs 24 32767) ?_
                         refine puA 17 85 (bs 24 163839) ?_
                         refine puA 18 86 (bs 24 425983) ?_
                         refine puA 19 87 (bs 24 950271) ?_
                         refine puA 20 88 (bs 24 1998847) ?_
                         refine tkA 15 83 (bs 24 2031615) hHeld ?_
                         refine tkA 21 89 (bs 24 4128767) hHeld ?_
                         refine one_ (i := 16) (N := some 84) (bs 24 4194303) rfl rfl (one_of HT_.out (by kernel_rfl)) (by decide) (fun K hK => ?_)
                         refine goes_ Try.func57 (by kernel_rfl) rfl #[.agg #[.int .i64 ((rd_T29 l0 x9_5).f0), .int .i64 ((rd_T29 l0 x9_5).f1), .int .i64 ((rd_T29 l0 x9_5).f2), .int .i64 ((rd_T29 l0 x9_5).f3), .int .i64 ((rd_T29 l0 x9_5).f4), .int .i64 ((rd_T29 l0 x9_5).f5), .int .i64 ((rd_T29 l0 x9_5).f6)]] (by rfl) rfl rfl (by (try simp only [List.map_toArray, List.map_cons, List.map_nil]); first | done | rfl | (simp only [List.length_drop, List.length_take]; rfl)) ?_
                         with_reducible refine (dancestudioref24_end.calls ((rd_T29 l0 x9_5).f0) ((rd_T29 l0 x9_5).f1) ((rd_T29 l0 x9_5).f2) ((rd_T29 l0 x9_5).f3) ((rd_T29 l0 x9_5).f4) ((rd_T29 l0 x9_5).f5) ((rd_T29 l0 x9_5).f6) t151 _ A36.out).mono ?_
                         rintro e w39 ⟨rfl, hb⟩
                         refine ⟨_, rfl, ?_⟩
                         have n0_ := Aside0.mk (below_step (hU HB.out) hb)
                         clear HB
                         have HB := n0_
                         clear n0_
                         (try clear hb)
                         (try clear hb2)
                         (try clear hk)
                         (try clear hi)
                         refine hK.out _ _ ⟨(hbC HB hw148_0), (hbC HB hw148_1), (hbC HB hw148_2), (hbC HB hw148_3), (hbC HB hw148_4), (hbC HB hw148_5), (hbC HB hw148_6), (hbC HB hw149_0), (hbC HB hw149_1), (hbC HB hw149_2), (hbC HB hw149_3), (hbC HB hw149_4), (hbC HB hw149_5), (hbC HB hw149_6), (hbC HB hw150_0), (hbC HB hw150_1), (hbC HB hw150_2), (hbC HB hw150_3), (hbC HB hw150_4), (hbC HB hw150_5), (hbC HB hw150_6), (hbC HB hw152_0), (hbC HB hw152_1), (hbC HB hw152_2), (hbC HB hw152_3), (hbC HB hw152_4), (hbC HB hw152_5), (hbC HB hw152_6)⟩ (fun hHeld => ?_)
                         clear hK K
                         refine nmA 84 ?_
                         refine puA 22 90 (bs 24 8388607) ?_
                         refine puA 23 91 (bs 24 16777215) ?_
                         refine done_ (done_of HT_.out (by kernel_rfl)) ?_
                         try go_wp2
                         go_ret
                         exact ⟨by first | rfl | (simp [errW_none, errW_some] <;> rfl) | (simp [*, errW_none, errW_some] <;> rfl), hU HB.out⟩
                        ·rw [if_neg c37] at H
                         have c37b0 : decide (((rd_T29 l0 x8_4).f2) < t151) = false := decide_eq_false c37
                         clear c37
                         have H' := Aside0.mk H
                         clear H
                         try go_wp2
                         have n0_ := Aside0.mk (below_drew1 HB.out)
                         clear HB
                         have HB := n0_
                         clear n0_
                         have p148 : 0 ≤ (x9_5 : Int) := of_decide_eq_true (by first | (with_reducible assumption) | assumption)
                         have q148 : x9_5 < (l0.length : Int) := of_decide_eq_true (by first | (with_reducible assumption) | assumption)
                         obtain ⟨ad148, e148, hx148_0, hx148_1, hx148_2, hx148_3, hx148_4, hx148_5, hx148_6⟩ := at_T29 HR0.out x9_5 p148 q148
                         have hw148_6 := hx148_6
                         have hw148_5 := hx148_5
                         have hw148_4 := hx148_4
                         have hw148_3 := hx148_3
                         have hw148_2 := hx148_2
                         have hw148_1 := hx148_1
                         have hw148_0 := hx148_0
                         obtain rfl : ad146 = ad148 := (by injection e148)
                         replace hx148_0 := hbC HB hx148_0
                         replace hx148_1 := hbC HB hx148_1
                         replace hx148_2 := hbC HB hx148_2
                         replace hx148_3 := hbC HB hx148_3
                         replace hx148_4 := hbC HB hx148_4
                         replace hx148_5 := hbC HB hx148_5
                         replace hx148_6 := hbC HB hx148_6
                         replace p148 := eq_true p148
                         replace q148 := eq_true q148
                         have p149 : 0 ≤ (x8_4 : Int) := of_decide_eq_true (by first | (with_reducible assumption) | assumption)
                         have q149 : x8_4 < (l0.length : Int) := of_decide_eq_true (by first | (with_reducible assumption) | assumption)
                         obtain ⟨ad149, e149, hx149_0, hx149_1, hx149_2, hx149_3, hx149_4, hx149_5, hx149_6⟩ := at_T29 HR0.out x8_4 p149 q149
                         have hw149_6 := hx149_6
                         have hw149_5 := hx149_5
                         have hw149_4 := hx149_4
                         have hw149_3 := hx149_3
                         have hw149_2 := hx149_2
                         have hw149_1 := hx149_1
                         have hw149_0 := hx149_0
                         obtain rfl : ad146 = ad149 := (by injection e149)
                         replace hx149_0 := hbC HB hx149_0
                         replace hx149_1 := hbC HB hx149_1
                         replace hx149_2 := hbC HB hx149_2
                         replace hx149_3 := hbC HB hx149_3
                         replace hx149_4 := hbC HB hx149_4
                         replace hx149_5 := hbC HB hx149_5
                         replace hx149_6 := hbC HB hx149_6
                         replace p149 := eq_true p149
                         replace q149 := eq_true q149
                         have p150 : 0 ≤ (x9_5 : Int) := of_decide_eq_true (by first | (with_reducible assumption) | assumption)
                         have q150 : x9_5 < (l0.length : Int) := of_decide_eq_true (by first | (with_reducible assumption) | assumption)
                         obtain ⟨ad150, e150, hx150_0, hx150_1, hx150_2, hx150_3, hx150_4, hx150_5, hx150_6⟩ := at_T29 HR0.out x9_5 p150 q150
                         have hw150_6 := hx150_6
                         have hw150_5 := hx150_5
                         have hw150_4 := hx150_4
                         have hw150_3 := hx150_3
                         have hw150_2 := hx150_2
                         have hw150_1 := hx150_1
                         have hw150_0 := hx150_0
                         obtain rfl : ad146 = ad150 := (by injection e150)
                         replace hx150_0 := hbC HB hx150_0
                         replace hx150_1 := hbC HB hx150_1
                         replace hx150_2 := hbC HB hx150_2
                         replace hx150_3 := hbC HB hx150_3
                         replace hx150_4 := hbC HB hx150_4
                         replace hx150_5 := hbC HB hx150_5
                         replace hx150_6 := hbC HB hx150_6
                         replace p150 := eq_true p150
                         replace q150 := eq_true q150
                         have p152 : 0 ≤ (x8_4 : Int) := of_decide_eq_true (by first | (with_reducible assumption) | assumption)
                         have q152 : x8_4 < (l0.length : Int) := of_decide_eq_true (by first | (with_reducible assumption) | assumption)
                         obtain ⟨ad152, e152, hx152_0, hx152_1, hx152_2, hx152_3, hx152_4, hx152_5, hx152_6⟩ := at_T29 HR0.out x8_4 p152 q152
                         have hw152_6 := hx152_6
                         have hw152_5 := hx152_5
                         have hw152_4 := hx152_4
                         have hw152_3 := hx152_3
                         have hw152_2 := hx152_2
                         have hw152_1 := hx152_1
                         have hw152_0 := hx152_0
                         obtain rfl : ad146 = ad152 := (by injection e152)
                         replace hx152_0 := hbC HB hx152_0
                         replace hx152_1 := hbC HB hx152_1
                         replace hx152_2 := hbC HB hx152_2
                         replace hx152_3 := hbC HB hx152_3
                         replace hx152_4 := hbC HB hx152_4
                         replace hx152_5 := hbC HB hx152_5
                         replace hx152_6 := hbC HB hx152_6
                         replace p152 := eq_true p152
                         replace q152 := eq_true q152
                         refine start_ (n := 24) (S := fun w' => w'.cell? (ad146.add ((x9_5).toNat * 7)) = some (.int .i64 ((rd_T29 l0 x9_5).f0)) ∧ w'.cell? ⟨(ad146.add ((x9_5).toNat * 7)).block, (ad146.add ((x9_5).toNat * 7)).off + 1, none⟩ = some (.int .i64 ((rd_T29 l0 x9_5).f1)) ∧ w'.cell? ⟨(ad146.add ((x9_5).toNat * 7)).block, (ad146.add ((x9_5).toNat * 7)).off + 2, none⟩ = some (.int .i64 ((rd_T29 l0 x9_5).f2)) ∧ w'.cell? ⟨(ad146.add ((x9_5).toNat * 7)).block, (ad146.add ((x9_5).toNat * 7)).off + 3, none⟩ = some (.int .i64 ((rd_T29 l0 x9_5).f3)) ∧ w'.cell? ⟨(ad146.add ((x9_5).toNat * 7)).block, (ad146.add ((x9_5).toNat * 7)).off + 4, none⟩ = some (.int .i64 ((rd_T29 l0 x9_5).f4)) ∧ w'.cell? ⟨(ad146.add ((x9_5).toNat * 7)).block, (ad146.add ((x9_5).toNat * 7)).off + 5, none⟩ = some (.int .i64 ((rd_T29 l0 x9_5).f5)) ∧ w'.cell? ⟨(ad146.add ((x9_5).toNat * 7)).block, (ad146.add ((x9_5).toNat * 7)).off + 6, none⟩ = some (.int .i64 ((rd_T29 l0 x9_5).f6)) ∧ w'.cell? (ad146.add ((x8_4).toNat * 7)) = some (.int .i64 ((rd_T29 l0 x8_4).f0)) ∧ w'.cell? ⟨(ad146.add ((x8_4).toNat * 7)).block, (ad146.add ((x8_4).toNat * 7)).off + 1, none⟩ = some (.int .i64 ((rd_T29 l0 x8_4).f1)) ∧ w'.cell? ⟨(ad146.add ((x8_4).toNat * 7)).block, (ad146.add ((x8_4).toNat * 7)).off + 2, none⟩ = some (.int .i64 ((rd_T29 l0 x8_4).f2)) ∧ w'.cell? ⟨(ad146.add ((x8_4).toNat * 7)).block, (ad146.add ((x8_4).toNat * 7)).off + 3, none⟩ = some (.int .i64 ((rd_T29 l0 x8_4).f3)) ∧ w'.cell? ⟨(ad146.add ((x8_4).toNat * 7)).block, (ad146.add ((x8_4).toNat * 7)).off + 4, none⟩ = some (.int .i64 ((rd_T29 l0 x8_4).f4)) ∧ w'.cell? ⟨(ad146.add ((x8_4).toNat * 7)).block, (ad146.add ((x8_4).toNat * 7)).off + 5, none⟩ = some (.int .i64 ((rd_T29 l0 x8_4).f5)) ∧ w'.cell? ⟨(ad146.add ((x8_4).toNat * 7)).block, (ad146.add ((x8_4).toNat * 7)).off + 6, none⟩ = some (.int .i64 ((rd_T29 l0 x8_4).f6)) ∧ w'.cell? (ad146.add ((x9_5).toNat * 7)) = some (.int .i64 ((rd_T29 l0 x9_5).f0)) ∧ w'.cell? ⟨(ad146.add ((x9_5).toNat * 7)).block, (ad146.add ((x9_5).toNat * 7)).off + 1, none⟩ = some (.int .i64 ((rd_T29 l0 x9_5).f1)) ∧ w'.cell? ⟨(ad146.add ((x9_5).toNat * 7)).block, (ad146.add ((x9_5).toNat * 7)).off + 2, none⟩ = some (.int .i64 ((rd_T29 l0 x9_5).f2)) ∧ w'.cell? ⟨(ad146.add ((x9_5).toNat * 7)).block, (ad146.add ((x9_5).toNat * 7)).off + 3, none⟩ = some (.int .i64 ((rd_T29 l0 x9_5).f3)) ∧ w'.cell? ⟨(ad146.add ((x9_5).toNat * 7)).block, (ad146.add ((x9_5).toNat * 7)).off + 4, none⟩ = some (.int .i64 ((rd_T29 l0 x9_5).f4)) ∧ w'.cell? ⟨(ad146.add ((x9_5).toNat * 7)).block, (ad146.add ((x9_5).toNat * 7)).off + 5, none⟩ = some (.int .i64 ((rd_T29 l0 x9_5).f5)) ∧ w'.cell? ⟨(ad146.add ((x9_5).toNat * 7)).block, (ad146.add ((x9_5).toNat * 7)).off + 6, none⟩ = some (.int .i64 ((rd_T29 l0 x9_5).f6)) ∧ w'.cell? (ad146.add ((x8_4).toNat * 7)) = some (.int .i64 ((rd_T29 l0 x8_4).f0)) ∧ w'.cell? ⟨(ad146.add ((x8_4).toNat * 7)).block, (ad146.add ((x8_4).toNat * 7)).off + 1, none⟩ = some (.int .i64 ((rd_T29 l0 x8_4).f1)) ∧ w'.cell? ⟨(ad146.add ((x8_4).toNat * 7)).block, (ad146.add ((x8_4).toNat * 7)).off + 2, none⟩ = some (.int .i64 ((rd_T29 l0 x8_4).f2)) ∧ w'.cell? ⟨(ad146.add ((x8_4).toNat * 7)).block, (ad146.add ((x8_4).toNat * 7)).off + 3, none⟩ = some (.int .i64 ((rd_T29 l0 x8_4).f3)) ∧ w'.cell? ⟨(ad146.add ((x8_4).toNat * 7)).block, (ad146.add ((x8_4).toNat * 7)).off + 4, none⟩ = some (.int .i64 ((rd_T29 l0 x8_4).f4)) ∧ w'.cell? ⟨(ad146.add ((x8_4).toNat * 7)).block, (ad146.add ((x8_4).toNat * 7)).off + 5, none⟩ = some (.int .i64 ((rd_T29 l0 x8_4).f5)) ∧ w'.cell? ⟨(ad146.add ((x8_4).toNat * 7)).block, (ad146.add ((x8_4).toNat * 7)).off + 6, none⟩ = some (.int .i64 ((rd_T29 l0 x8_4).f6))) (ds := []) #[false, false, false, false, false, false, false, false, false, false, false, false, false, false, false, false, false, false, false, false, false, false, false, false] (by kernel_rfl) rfl rfl ⟨(hbC HB hw148_0), (hbC HB hw148_1), (hbC HB hw148_2), (hbC HB hw148_3), (hbC HB hw148_4), (hbC HB hw148_5), (hbC HB hw148_6), (hbC HB hw149_0), (hbC HB hw149_1), (hbC HB hw149_2), (hbC HB hw149_3), (hbC HB hw149_4), (hbC HB hw149_5), (hbC HB hw149_6), (hbC HB hw150_0), (hbC HB hw150_1), (hbC HB hw150_2), (hbC HB hw150_3), (hbC HB hw150_4), (hbC HB hw150_5), (hbC HB hw150_6), (hbC HB hw152_0), (hbC HB hw152_1), (hbC HB hw152_2), (hbC HB hw152_3), (hbC HB hw152_4), (hbC HB hw152_5), (hbC HB hw152_6)⟩ (fun hHeld => ?_); refine with_tabW dancestudioref24_Check.tab24 dancestudioref24_Check.bits24 (fun HT_ HW_ => ?_)
                         generalize wr.drew = w40 at HB hx148_0 hx148_1 hx148_2 hx148_3 hx148_4 hx148_5 hx148_6 hx149_0 hx149_1 hx149_2 hx149_3 hx149_4 hx149_5 hx149_6 hx150_0 hx150_1 hx150_2 hx150_3 hx150_4 hx150_5 hx150_6 hx152_0 hx152_1 hx152_2 hx152_3 hx152_4 hx152_5 hx152_6 hHeld ⊢
                         refine puA 0 68 (bs 24 1) ?_
                         refine puA 1 69 (bs 24 3) ?_
                         refine puA 2 70 (bs 24 7) ?_
                         refine puA 3 71 (bs 24 15) ?_
                         refine puA 5 73 (bs 24 47) ?_
                         refine puA 6 74 (bs 24 111) ?_
                         refine puA 7 75 (bs 24 239) ?_
                         refine puA 8 76 (bs 24 495) ?_
                         refine tkA 4 72 (bs 24 511) hHeld ?_
                         refine tkA 9 77 (bs 24 1023) hHeld ?_
                         refine puA 10 78 (bs 24 2047) ?_
                         refine puA 11 79 (bs 24 4095) ?_
                         refine puA 12 80 (bs 24 8191) ?_
                         refine puA 13 81 (bs 24 16383) ?_
                         refine puA 14 82 (bs 24 32767) ?_
                         refine puA 17 85 (bs 24 163839) ?_
                         refine puA 18 86 (bs 24 425983) ?_
                         refine puA 19 87 (bs 24 950271) ?_
                         refine puA 20 88 (bs 24 1998847) ?_
                         refine tkA 15 83 (bs 24 2031615) hHeld ?_
                         refine tkA 21 89 (bs 24 4128767) hHeld ?_
                         refine one_ (i := 16) (N := some 84) (bs 24 4194303) rfl rfl (one_of HT_.out (by kernel_rfl)) (by decide) (fun K hK => ?_)
                         refine goes_ Try.func57 (by kernel_rfl) rfl #[.agg #[.int .i64 ((rd_T29 l0 x9_5).f0), .int .i64 ((rd_T29 l0 x9_5).f1), .int .i64 ((rd_T29 l0 x9_5).f2), .int .i64 ((rd_T29 l0 x9_5).f3), .int .i64 ((rd_T29 l0 x9_5).f4), .int .i64 ((rd_T29 l0 x9_5).f5), .int .i64 ((rd_T29 l0 x9_5).f6)]] (by rfl) rfl rfl (by (try simp only [List.map_toArray, List.map_cons, List.map_nil]); first | done | rfl | (simp only [List.length_drop, List.length_take]; rfl)) ?_
                         with_reducible refine (dancestudioref24_end.calls ((rd_T29 l0 x9_5).f0) ((rd_T29 l0 x9_5).f1) ((rd_T29 l0 x9_5).f2) ((rd_T29 l0 x9_5).f3) ((rd_T29 l0 x9_5).f4) ((rd_T29 l0 x9_5).f5) ((rd_T29 l0 x9_5).f6) t151 _ A36.out).mono ?_
                         rintro e w41 ⟨rfl, hb⟩
                         refine ⟨_, rfl, ?_⟩
                         have n0_ := Aside0.mk (below_step (hU HB.out) hb)
                         clear HB
                         have HB := n0_
                         clear n0_
                         (try clear hb)
                         (try clear hb2)
                         (try clear hk)
                         (try clear hi)
                         refine hK.out _ _ ⟨(hbC HB hw148_0), (hbC HB hw148_1), (hbC HB hw148_2), (hbC HB hw148_3), (hbC HB hw148_4), (hbC HB hw148_5), (hbC HB hw148_6), (hbC HB hw149_0), (hbC HB hw149_1), (hbC HB hw149_2), (hbC HB hw149_3), (hbC HB hw149_4), (hbC HB hw149_5), (hbC HB hw149_6), (hbC HB hw150_0), (hbC HB hw150_1), (hbC HB hw150_2), (hbC HB hw150_3), (hbC HB hw150_4), (hbC HB hw150_5), (hbC HB hw150_6), (hbC HB hw152_0), (hbC HB hw152_1), (hbC HB hw152_2), (hbC HB hw152_3), (hbC HB hw152_4), (hbC HB hw152_5), (hbC HB hw152_6)⟩ (fun hHeld => ?_)
                         clear hK K
                         refine nmA 84 ?_
                         refine puA 22 90 (bs 24 8388607) ?_
                         refine puA 23 91 (bs 24 16777215) ?_
                         refine done_ (done_of HT_.out (by kernel_rfl)) ?_
                         try go_wp2
                         go_roundg k5
                         case measure => have := HJ2.out; have := HK2.out; have := HK3.out; have := HK4.out; have := HK5.out; omega
                         case rel => exact ⟨(wrap64 (x9_5 + 1)), (by first | rfl | (simp; done) | (simp [*]; done)), H', ⟨by have := HJ2.out; have := HK2.out; have := HK3.out; have := HK4.out; have := HK5.out; omega⟩, ⟨hU HB.out⟩⟩
                       ·rw [if_neg c35] at H
                        have c35b0 : (((rd_T29 l0 x9_5).f1) == ((rd_T29 l0 x8_4).f1)) = false := beq_eq_false_iff_ne.mpr c35
                        have c35b1 : (((rd_T29 l0 x9_5).f1) != ((rd_T29 l0 x8_4).f1)) = true := bne_iff_ne.mpr c35
                        have H' := Aside0.mk H
                        clear H
                        try go_wp2
                        have n0_ := Aside0.mk (below_drew1 HB.out)
                        clear HB
                        have HB := n0_
                        clear n0_
                        have p148 : 0 ≤ (x9_5 : Int) := of_decide_eq_true (by first | (with_reducible assumption) | assumption)
                        have q148 : x9_5 < (l0.length : Int) := of_decide_eq_true (by first | (with_reducible assumption) | assumption)
                        obtain ⟨ad148, e148, hx148_0, hx148_1, hx148_2, hx148_3, hx148_4, hx148_5, hx148_6⟩ := at_T29 HR0.out x9_5 p148 q148
                        have hw148_6 := hx148_6
                        have hw148_5 := hx148_5
                        have hw148_4 := hx148_4
                        have hw148_3 := hx148_3
                        have hw148_2 := hx148_2
                        have hw148_1 := hx148_1
                        have hw148_0 := hx148_0
                        obtain rfl : ad146 = ad148 := (by injection e148)
                        replace hx148_0 := hbC HB hx148_0
                        replace hx148_1 := hbC HB hx148_1
                        replace hx148_2 := hbC HB hx148_2
                        replace hx148_3 := hbC HB hx148_3
                        replace hx148_4 := hbC HB hx148_4
                        replace hx148_5 := hbC HB hx148_5
                        replace hx148_6 := hbC HB hx148_6
                        replace p148 := eq_true p148
                        replace q148 := eq_true q148
                        have p149 : 0 ≤ (x8_4 : Int) := of_decide_eq_true (by first | (with_reducible assumption) | assumption)
                        have q149 : x8_4 < (l0.length : Int) := of_decide_eq_true (by first | (with_reducible assumption) | assumption)
                        obtain ⟨ad149, e149, hx149_0, hx149_1, hx149_2, hx149_3, hx149_4, hx149_5, hx149_6⟩ := at_T29 HR0.out x8_4 p149 q149
                        have hw149_6 := hx149_6
                        have hw149_5 := hx149_5
                        have hw149_4 := hx149_4
                        have hw149_3 := hx149_3
                        have hw149_2 := hx149_2
                        have hw149_1 := hx149_1
                        have hw149_0 := hx149_0
                        obtain rfl : ad146 = ad149 := (by injection e149)
                        replace hx149_0 := hbC HB hx149_0
                        replace hx149_1 := hbC HB hx149_1
                        replace hx149_2 := hbC HB hx149_2
                        replace hx149_3 := hbC HB hx149_3
                        replace hx149_4 := hbC HB hx149_4
                        replace hx149_5 := hbC HB hx149_5
                        replace hx149_6 := hbC HB hx149_6
                        replace p149 := eq_true p149
                        replace q149 := eq_true q149
                        refine start_ (n := 24) (S := fun w' => w'.cell? (ad146.add ((x9_5).toNat * 7)) = some (.int .i64 ((rd_T29 l0 x9_5).f0)) ∧ w'.cell? ⟨(ad146.add ((x9_5).toNat * 7)).block, (ad146.add ((x9_5).toNat * 7)).off + 1, none⟩ = some (.int .i64 ((rd_T29 l0 x9_5).f1)) ∧ w'.cell? ⟨(ad146.add ((x9_5).toNat * 7)).block, (ad146.add ((x9_5).toNat * 7)).off + 2, none⟩ = some (.int .i64 ((rd_T29 l0 x9_5).f2)) ∧ w'.cell? ⟨(ad146.add ((x9_5).toNat * 7)).block, (ad146.add ((x9_5).toNat * 7)).off + 3, none⟩ = some (.int .i64 ((rd_T29 l0 x9_5).f3)) ∧ w'.cell? ⟨(ad146.add ((x9_5).toNat * 7)).block, (ad146.add ((x9_5).toNat * 7)).off + 4, none⟩ = some (.int .i64 ((rd_T29 l0 x9_5).f4)) ∧ w'.cell? ⟨(ad146.add ((x9_5).toNat * 7)).block, (ad146.add ((x9_5).toNat * 7)).off + 5, none⟩ = some (.int .i64 ((rd_T29 l0 x9_5).f5)) ∧ w'.cell? ⟨(ad146.add ((x9_5).toNat * 7)).block, (ad146.add ((x9_5).toNat * 7)).off + 6, none⟩ = some (.int .i64 ((rd_T29 l0 x9_5).f6)) ∧ w'.cell? (ad146.add ((x8_4).toNat * 7)) = some (.int .i64 ((rd_T29 l0 x8_4).f0)) ∧ w'.cell? ⟨(ad146.add ((x8_4).toNat * 7)).block, (ad146.add ((x8_4).toNat * 7)).off + 1, none⟩ = some (.int .i64 ((rd_T29 l0 x8_4).f1)) ∧ w'.cell? ⟨(ad146.add ((x8_4).toNat * 7)).block, (ad146.add ((x8_4).toNat * 7)).off + 2, none⟩ = some (.int .i64 ((rd_T29 l0 x8_4).f2)) ∧ w'.cell? ⟨(ad146.add ((x8_4).toNat * 7)).block, (ad146.add ((x8_4).toNat * 7)).off + 3, none⟩ = some (.int .i64 ((rd_T29 l0 x8_4).f3)) ∧ w'.cell? ⟨(ad146.add ((x8_4).toNat * 7)).block, (ad146.add ((x8_4).toNat * 7)).off + 4, none⟩ = some (.int .i64 ((rd_T29 l0 x8_4).f4)) ∧ w'.cell? ⟨(ad146.add ((x8_4).toNat * 7)).block, (ad146.add ((x8_4).toNat * 7)).off + 5, none⟩ = some (.int .i64 ((rd_T29 l0 x8_4).f5)) ∧ w'.cell? ⟨(ad146.add ((x8_4).toNat * 7)).block, (ad146.add ((x8_4).toNat * 7)).off + 6, none⟩ = some (.int .i64 ((rd_T29 l0 x8_4).f6))) (ds := []) #[false, false, false, false, false, false, false, false, false, false, false, false, false, false, false, false, false, false, false, false, false, false, false, false] (by kernel_rfl) rfl rfl ⟨(hbC HB hw148_0), (hbC HB hw148_1), (hbC HB hw148_2), (hbC HB hw148_3), (hbC HB hw148_4), (hbC HB hw148_5), (hbC HB hw148_6), (hbC HB hw149_0), (hbC HB hw149_1), (hbC HB hw149_2), (hbC HB hw149_3), (hbC HB hw149_4), (hbC HB hw149_5), (hbC HB hw149_6)⟩ (fun hHeld => ?_); refine with_tabW dancestudioref24_Check.tab24 dancestudioref24_Check.bits24 (fun HT_ HW_ => ?_)
                        generalize wr.drew = w42 at HB hx148_0 hx148_1 hx148_2 hx148_3 hx148_4 hx148_5 hx148_6 hx149_0 hx149_1 hx149_2 hx149_3 hx149_4 hx149_5 hx149_6 hHeld ⊢
                        refine puA 0 68 (bs 24 1) ?_
                        refine puA 1 69 (bs 24 3) ?_
                        refine puA 2 70 (bs 24 7) ?_
                        refine puA 3 71 (bs 24 15) ?_
                        refine puA 5 73 (bs 24 47) ?_
                        refine puA 6 74 (bs 24 111) ?_
                        refine puA 7 75 (bs 24 239) ?_
                        refine puA 8 76 (bs 24 495) ?_
                        refine tkA 4 72 (bs 24 511) hHeld ?_
                        refine tkA 9 77 (bs 24 1023) hHeld ?_
                        refine puA 10 78 (bs 24 2047) ?_
                        refine puA 11 79 (bs 24 4095) ?_
                        refine skA 12 80 (bs 24 8191) ?_
                        refine skA 13 81 (bs 24 16383) ?_
                        refine skA 14 82 (bs 24 32767) ?_
                        refine skA 15 83 (bs 24 65535) ?_
                        refine skA 16 84 (bs 24 131071) ?_
                        refine skA 17 85 (bs 24 262143) ?_
                        refine skA 18 86 (bs 24 524287) ?_
                        refine skA 19 87 (bs 24 1048575) ?_
                        refine skA 20 88 (bs 24 2097151) ?_
                        refine skA 21 89 (bs 24 4194303) ?_
                        refine skA 22 90 (bs 24 8388607) ?_
                        refine puA 23 91 (bs 24 16777215) ?_
                        refine done_ (done_of HT_.out (by kernel_rfl)) ?_
                        try go_wp2
                        go_roundg k5
                        case measure => have := HJ2.out; have := HK2.out; have := HK3.out; have := HK4.out; have := HK5.out; omega
                        case rel => exact ⟨(wrap64 (x9_5 + 1)), (by first | rfl | (simp; done) | (simp [*]; done)), H', ⟨by have := HJ2.out; have := HK2.out; have := HK3.out; have := HK4.out; have := HK5.out; omega⟩, ⟨hU HB.out⟩⟩
                      ·rw [if_neg c34] at H
                       exact absurd H (by simp)
                     ·rw [if_neg c33] at H
                      exact absurd H (by simp)
                    ·rw [if_neg c32] at H
                     exact absurd H (by simp)
                   ·rw [if_neg c31] at H
                    exact absurd H (by simp)
                  ·rw [if_neg c30] at H
                   have c30b0 : decide (x9_5 < x8_4) = false := decide_eq_false c30
                   clear c30
                   have H' := Aside0.mk H
                   clear H
                   go_wp2
                   go_roundg k5
                   case measure => have := HJ2.out; have := HK2.out; have := HK3.out; have := HK4.out; have := HK5.out; omega
                   case rel => exact ⟨(wrap64 (x8_4 + 1)), (by first | rfl | (simp; done) | (simp [*]; done)), H', ⟨by have := HJ2.out; have := HK2.out; have := HK3.out; have := HK4.out; have := HK5.out; omega⟩, ⟨hU HB.out⟩⟩
              ·rw [if_neg c25] at H
               exact absurd H (by simp)
             ·rw [if_neg c24] at H
              have c24b0 : decide (x8_4 < (l0.length : Int)) = false := decide_eq_false c24
              clear c24
              obtain rfl := Option.some.inj H
              go_wp2
              go_ret
              exact ⟨by first | rfl | (simp [errW_none, errW_some] <;> rfl) | (simp [*, errW_none, errW_some] <;> rfl), hU HB.out⟩

end Go.Proofs.Ytdilndbanhianaa.P
end
section
set_option linter.unusedVariables false
set_option linter.unusedSimpArgs false
namespace Go.Proofs.Ytdilndbanhianaa.P
open Go.RowKit Go.Proofs.YtdilndbanhianaaW.PrintWords Go.Proofs.YtdilndbanhianaaW.PrintLast Go.Proofs.YtdilndbanhianaaW.PrintMore
/-- Two symbols of a column have no tick in common, the first being the earlier. -/
def apS (a b : S29) : Prop := a.f1 = b.f1 → endS a ≤ b.f2
structure StaffOk (l : List S29) (n : Int) : Prop where
  n0 : 1 ≤ n
  n1 : n ≤ 8192
  len : l.length ≤ 256
  all : ∀ s ∈ l, chkO s = 0
  ord : l.Pairwise (fun a b => ltS a b = true)
  le : ∀ s ∈ l, endS s ≤ n
  ap : l.Pairwise apS
theorem chk1_zero : ∀ l : List S29, chk1 l = 0 ↔ ∀ s ∈ l, chkO s = 0
  | [] => by simp [chk1]
  | x :: l => by
    simp only [chk1, List.forall_mem_cons]
    by_cases hx : chkO x = 0
    · rw [if_pos hx, chk1_zero l]; simp [hx]
    · rw [if_neg hx]; simp [hx]
theorem ltS_tr {a b c : S29} (h1 : ltS a b = true) (h2 : ltS b c = true) : ltS a c = true := by
  simp only [ltS, lessB, decide_eq_true_eq] at *; omega
theorem ordS_pw : ∀ l : List S29, ordS l = true ↔ l.Pairwise (fun a b => ltS a b = true)
  | [] => by simp [ordS]
  | [a] => by simp [ordS, chk2]
  | a :: b :: l => by
    have ih := ordS_pw (b :: l)
    have e : ordS (a :: b :: l) = (ltS a b && ordS (b :: l)) := rfl
    rw [e, Bool.and_eq_true, ih, List.pairwise_cons (a := a)]
    constructor
    · rintro ⟨h1, h2⟩
      refine ⟨fun x hx => ?_, h2⟩
      rcases List.mem_cons.mp hx with rfl | hx
      · exact h1
      · exact ltS_tr h1 ((List.pairwise_cons.mp h2).1 x hx)
    · rintro ⟨h1, h2⟩
      exact ⟨h1 b (by simp), h2⟩
/-- What the ends of the columns are, behind some symbols. -/
def EndsOk (p : List S29) (E : List Int) : Prop := E.length = 9 ∧ (∀ y ∈ p, endS y ≤ E.getD y.f1.toNat 0) ∧ ∀ c, c < 9 → E.getD c 0 = 0 ∨ ∃ y ∈ p, y.f1.toNat = c ∧ endS y = E.getD c 0
theorem endsOk_nil : EndsOk [] [0, 0, 0, 0, 0, 0, 0, 0, 0] := ⟨rfl, by simp, fun c hc => .inl (by match c, hc with | 0, _ | 1, _ | 2, _ | 3, _ | 4, _ | 5, _ | 6, _ | 7, _ | 8, _ => rfl)⟩
theorem getD_set_int (E : List Int) (i j : Nat) (v : Int) (h : i < E.length) : (E.set i v).getD j 0 = if i = j then v else E.getD j 0 := by
  rw [List.getD_eq_getElem?_getD, List.getD_eq_getElem?_getD, List.getElem?_set]
  by_cases e : i = j
  · subst e; simp [h]
  · simp [e]
theorem endsOk_step {p : List S29} {E : List Int} {s : S29} (h : EndsOk p E) (hs : chkO s = 0) (hlt : ¬ s.f2 < E.getD s.f1.toNat 0) : EndsOk (p ++ [s]) (E.set s.f1.toNat (endS s)) := by
  obtain ⟨h9, h1, h2⟩ := h
  have hb := chkO_in s hs
  have hi : s.f1.toNat < E.length := by omega
  refine ⟨by simp [h9], fun y hy => ?_, fun c hc => ?_⟩
  · rw [getD_set_int E _ _ _ hi]
    rcases List.mem_append.mp hy with hy | hy
    · have := h1 y hy
      split
      · rename_i e; rw [← e] at this; unfold endS at *; omega
      · exact this
    · simp at hy; subst hy; simp
  · rw [getD_set_int E _ _ _ hi]
    split
    · rename_i e; exact .inr ⟨s, by simp, e, rfl⟩
    · rcases h2 c hc with h | ⟨y, hy, e1, e2⟩
      · exact .inl h
      · exact .inr ⟨y, by simp [hy], e1, e2⟩
theorem endsOk_hit {p : List S29} {E : List Int} {s : S29} (h : EndsOk p E) (hs : chkO s = 0) (hp : ∀ y ∈ p, chkO y = 0) : s.f2 < E.getD s.f1.toNat 0 ↔ ∃ y ∈ p, y.f1 = s.f1 ∧ s.f2 < endS y := by
  obtain ⟨h9, h1, h2⟩ := h
  have hb := chkO_in s hs
  constructor
  · intro hlt
    rcases h2 s.f1.toNat (by omega) with h | ⟨y, hy, e1, e2⟩
    · omega
    · have := chkO_in y (hp y hy)
      exact ⟨y, hy, by omega, by omega⟩
  · rintro ⟨y, hy, e1, e2⟩
    have := h1 y hy
    rw [e1] at this; omega
theorem chk3_zero (n : Int) : ∀ (l p : List S29) (E : List Int), EndsOk p E → (∀ y ∈ p, chkO y = 0) → (∀ y ∈ l, chkO y = 0) →
    (chk3 n E l = 0 ↔ (∀ s ∈ l, endS s ≤ n) ∧ l.Pairwise apS ∧ ∀ a ∈ p, ∀ b ∈ l, apS a b)
  | [], p, E, _, _, _ => by simp [chk3]
  | s :: l, p, E, hE, hp, hl => by
    have hs := hl s (by simp)
    have hhit := endsOk_hit hE hs hp
    simp only [chk3]
    by_cases h1 : n < endS s
    · rw [if_pos h1]
      constructor
      · intro h; cases h
      · rintro ⟨h, -⟩; have := h s (by simp); omega
    · rw [if_neg h1]
      by_cases h2 : s.f2 < E.getD s.f1.toNat 0
      · rw [if_pos h2]
        obtain ⟨y, hy, e1, e2⟩ := hhit.mp h2
        constructor
        · intro h; cases h
        · rintro ⟨-, -, h⟩; have := h y hy s (by simp) e1; omega
      · rw [if_neg h2, chk3_zero n l (p ++ [s]) _ (endsOk_step hE hs h2) (by intro y hy; rcases List.mem_append.mp hy with hy | hy; exact hp y hy; simp at hy; subst hy; exact hs) (fun y hy => hl y (by simp [hy]))]
        have hps : ∀ a ∈ p, apS a s := fun a ha e => by
          apply Decidable.byContradiction
          intro c
          exact h2 (hhit.mpr ⟨a, ha, e, by omega⟩)
        constructor
        · rintro ⟨k1, k2, k3⟩
          refine ⟨fun x hx => ?_, List.pairwise_cons.mpr ⟨fun b hb => k3 s (by simp) b hb, k2⟩, fun a ha b hb => ?_⟩
          · rcases List.mem_cons.mp hx with rfl | hx
            · omega
            · exact k1 x hx
          · rcases List.mem_cons.mp hb with rfl | hb
            · exact hps a ha
            · exact k3 a (by simp [ha]) b hb
        · rintro ⟨k1, k2, k3⟩
          obtain ⟨k4, k5⟩ := List.pairwise_cons.mp k2
          refine ⟨fun x hx => k1 x (by simp [hx]), k5, fun a ha b hb => ?_⟩
          rcases List.mem_append.mp ha with ha | ha
          · exact k3 a ha b (by simp [hb])
          · simp at ha; subst ha; exact k4 b hb
theorem chk3_ends {n : Int} {l : List S29} (hl : ∀ y ∈ l, chkO y = 0) : chk3 n [0, 0, 0, 0, 0, 0, 0, 0, 0] l = 0 ↔ (∀ s ∈ l, endS s ≤ n) ∧ l.Pairwise apS := by
  rw [chk3_zero n l [] _ endsOk_nil (by simp) hl]; simp
/-- No error: a staff. -/
theorem chkS_ok (l : List S29) (n : Int) : chkS l n = 0 ↔ StaffOk l n := by
  unfold chkS
  by_cases h1 : n < 1 ∨ 8192 < n
  · rw [if_pos h1]; exact ⟨(fun h => by cases h), fun h => by have := h.n0; have := h.n1; omega⟩
  · rw [if_neg h1]
    by_cases h2 : 256 < l.length
    · rw [if_pos h2]; exact ⟨(fun h => by cases h), fun h => by have := h.len; omega⟩
    · rw [if_neg h2]
      by_cases h3 : chk1 l = 0
      · rw [if_neg (not_not_intro h3)]
        have ha := (chk1_zero l).mp h3
        by_cases h4 : ordS l = true
        · rw [if_neg (by rw [h4]; decide), chk3_ends ha]
          exact ⟨fun h => ⟨by omega, by omega, by omega, ha, (ordS_pw l).mp h4, h.1, h.2⟩, fun h => ⟨h.le, h.ap⟩⟩
        · rw [if_pos (by simpa using h4)]
          exact ⟨(fun h => by cases h), fun h => absurd ((ordS_pw l).mpr h.ord) h4⟩
      · rw [if_pos h3]
        exact ⟨fun h => absurd h h3, fun h => absurd ((chk1_zero l).mpr h.all) h3⟩
end Go.Proofs.Ytdilndbanhianaa.P
end
section
set_option linter.unusedVariables false
set_option linter.unusedSimpArgs false
namespace Go.Proofs.Ytdilndbanhianaa.P
open Go.RowKit Go.Proofs.YtdilndbanhianaaW.PrintWords Go.Proofs.YtdilndbanhianaaW.PrintLast Go.Proofs.YtdilndbanhianaaW.PrintMore
theorem Ev.succ {α : Type} {g : Nat → Option α} {r : α} (h : Ev (fun k => g (k + 1)) r) : Ev g r := Ev.step (fun _ => rfl) h
theorem Ev.eq {α : Type} {g : Nat → Option α} {r r' : α} (h : Ev g r) (e : r = r') : Ev g r' := e ▸ h
theorem Ev.at_ {α : Type} {g : Nat → Option α} {r : α} (K : Nat) (h : ∀ j, g (j + K) = some r) : Ev g r := ⟨K, fun k hk => by obtain ⟨j, rfl⟩ : ∃ j, k = j + K := ⟨k - K, by omega⟩; exact h j⟩
theorem wrapS {i n : Nat} (h : i < n) (hn : n ≤ 1000000) : wrap64 ((i : Int) + 1) = ((i + 1 : Nat) : Int) := by unfold wrap64; omega
theorem wrapPr {i : Nat} (h : i ≤ 1000000) : wrap64 (((i + 1 : Nat) : Int) - 1) = (i : Int) := by unfold wrap64; omega
theorem ltI {i n : Nat} : (i : Int) < (n : Int) ↔ i < n := Int.ofNat_lt
theorem ge0 (i : Nat) : (0 : Int) ≤ (i : Int) := Int.natCast_nonneg i
theorem eta29 (s : S29) : (⟨s.f0, s.f1, s.f2, s.f3, s.f4, s.f5, s.f6⟩ : S29) = s := rfl
/-- Two lists that are one and the same. -/
theorem same_refl (l : List S29) (hl : l.length ≤ 1000000) : Ev (fun k => dancestudioref24_Same.f k l l) true := by
  have main : ∀ d i, i + d = l.length → Ev (fun k => dancestudioref24_Same.l0 k l l (i : Int)) true := by
    intro d
    induction d with
    | zero => intro i hi; refine Ev.succ ?_; simp only [dancestudioref24_Same.l0, ltI, show ¬ i < l.length by omega, ↓reduceIte]; exact Ev.now _
    | succ d ih =>
      intro i hi
      have h : i < l.length := by omega
      refine Ev.succ ?_
      simp only [dancestudioref24_Same.l0, ltI, h, ge0, ↓reduceIte, wrapS h (by omega), beq_self_eq_true, Bool.not_true, Bool.or_self, Bool.false_eq_true]
      exact ih (i + 1) (by omega)
  have : (fun k => dancestudioref24_Same.f k l l) = fun k => dancestudioref24_Same.l0 k l l ((0 : Nat) : Int) := by
    funext k; simp [dancestudioref24_Same.f]
  rw [this]; exact main l.length 0 (by omega)
theorem rless_eq (a b : S29) : dancestudioref23_Less.f a.f0 a.f1 a.f2 a.f3 a.f4 a.f5 a.f6 b.f0 b.f1 b.f2 b.f3 b.f4 b.f5 b.f6 = some (ltS a b) := by
  unfold dancestudioref23_Less.f ltS lessB
  by_cases h1 : a.f2 < b.f2
  · simp [h1]
  · by_cases h2 : a.f2 = b.f2 <;> simp [h1, h2]
def endW (s : S29) : Int := wrap64 (s.f2 + s.f3)
theorem endW_eq (s : S29) (h : chkO s = 0) : endW s = endS s := by
  have := chkO_in s h
  unfold endW endS wrap64; omega
def hitE (s y : S29) : Bool := decide (y.f1 = s.f1) && decide (s.f2 < endW y)
def chkR3 (n : Int) : List S29 → List S29 → Int
  | _, [] => 0
  | p, s :: l => if n < endW s then 1 else if p.any (hitE s) = true then 17 else chkR3 n (p ++ [s]) l
theorem take_drop_cons {l : List S29} {i j : Nat} (hij : i < j) (hj : j ≤ l.length) : (l.take j).drop i = l[i] :: (l.take j).drop (i + 1) := by
  rw [List.drop_eq_getElem_cons (by rw [List.length_take]; omega), List.getElem_take]
theorem rchk_l3 (l : List S29) (n : Int) (hl : l.length ≤ 1000000) (j : Nat) (hj : j < l.length) (r : Int) (hrest : Ev (fun k => dancestudioref24_Check.l2 k l n ((j + 1 : Nat) : Int)) r) :
    ∀ e i, i + e = j → Ev (fun k => dancestudioref24_Check.l3 k l n (j : Int) (i : Int)) (if ((l.take j).drop i).any (hitE l[j]) = true then 17 else r) := by
  intro e
  induction e with
  | zero =>
    intro i hi
    refine Ev.succ ?_
    have : (l.take j).drop i = [] := List.drop_eq_nil_of_le (by rw [List.length_take]; omega)
    simp only [dancestudioref24_Check.l3, ltI, show ¬ i < j by omega, ↓reduceIte, this, List.any_nil, Bool.false_eq_true, wrapS hj hl]
    exact hrest
  | succ e ih =>
    intro i hi
    have hij : i < j := by omega
    have h : i < l.length := by omega
    refine Ev.succ ?_
    rw [take_drop_cons hij (by omega), List.any_cons]
    simp only [dancestudioref24_Check.l3, ltI, hij, h, hj, ge0, ↓reduceIte, rd29_at h, rd29_at hj, wrapS h hl, dancestudioref24_end.f, Option.bind_some, GT.gt]
    have ih' := ih (i + 1) (by omega)
    by_cases c1 : l[i].f1 = l[j].f1
    · by_cases c2 : l[j].f2 < wrap64 (l[i].f2 + l[i].f3)
      · have : hitE l[j] l[i] = true := by simp [hitE, c1, endW, c2]
        simp only [c1, c2, ↓reduceIte, this, Bool.true_or]
        exact Ev.now _
      · have : hitE l[j] l[i] = false := by simp [hitE, endW, c2]
        simp only [c1, c2, ↓reduceIte, this, Bool.false_or]
        exact ih'
    · have : hitE l[j] l[i] = false := by simp [hitE, c1]
      simp only [c1, ↓reduceIte, this, Bool.false_or]
      exact ih'
theorem rchk_l2 (l : List S29) (n : Int) (hl : l.length ≤ 1000000) : ∀ d j, j + d = l.length → Ev (fun k => dancestudioref24_Check.l2 k l n (j : Int)) (chkR3 n (l.take j) (l.drop j)) := by
  intro d
  induction d with
  | zero =>
    intro j hj
    refine Ev.succ ?_
    rw [show l.drop j = [] from List.drop_eq_nil_of_le (by omega)]
    simp only [dancestudioref24_Check.l2, ltI, show ¬ j < l.length by omega, ↓reduceIte, chkR3]
    exact Ev.now _
  | succ d ih =>
    intro j hj
    have h : j < l.length := by omega
    have ih' := ih (j + 1) (by omega)
    refine Ev.succ ?_
    rw [drop_cons29 h]
    simp only [dancestudioref24_Check.l2, ltI, h, ge0, ↓reduceIte, rd29_at h, dancestudioref24_end.f, Option.bind_some, GT.gt, chkR3]
    by_cases c : n < wrap64 (l[j].f2 + l[j].f3)
    · simp only [c, ↓reduceIte, endW]; exact Ev.now _
    · simp only [c, ↓reduceIte, endW]
      have e : l.take (j + 1) = l.take j ++ [l[j]] := by rw [List.take_add_one, List.getElem?_eq_getElem h]; rfl
      rw [e] at ih'
      exact rchk_l3 l n hl j h _ ih' j 0 (by omega)
theorem rchk_l1 (l : List S29) (n : Int) (hl : l.length ≤ 1000000) : ∀ d j, j + 1 + d = l.length → Ev (fun k => dancestudioref24_Check.l1 k l n ((j + 1 : Nat) : Int)) (if ordS (l.drop j) = true then chkR3 n [] l else 5) := by
  intro d
  induction d with
  | zero =>
    intro j hj
    have h : j < l.length := by omega
    refine Ev.succ ?_
    rw [drop_cons29 h, show l.drop (j + 1) = [] from List.drop_eq_nil_of_le (by omega)]
    simp only [dancestudioref24_Check.l1, ltI, show ¬ j + 1 < l.length by omega, ↓reduceIte, ordS, chk2]
    exact rchk_l2 l n hl l.length 0 (by omega)
  | succ d ih =>
    intro j hj
    have h0 : j < l.length := by omega
    have h : j + 1 < l.length := by omega
    refine Ev.succ ?_
    have ih' := ih (j + 1) (by omega)
    have e : ordS (l.drop j) = (ltS l[j] l[j + 1] && ordS (l.drop (j + 1))) := by rw [drop_cons29 h0, drop_cons29 h]; rfl
    rw [e]
    simp only [dancestudioref24_Check.l1, ltI, h, h0, ge0, ↓reduceIte, wrapPr (show j ≤ 1000000 by omega), rd29_at h0, rd29_at h, wrapS h hl, rless_eq, Option.bind_some]
    cases ltS l[j] l[j + 1]
    · simp only [Bool.false_and, Bool.false_eq_true, ↓reduceIte]; exact Ev.now _
    · simp only [Bool.true_and, ↓reduceIte]; exact ih'
theorem rchk_l1' (l : List S29) (n : Int) (hl : l.length ≤ 1000000) : Ev (fun k => dancestudioref24_Check.l1 k l n 1) (if ordS l = true then chkR3 n [] l else 5) := by
  cases hc : l.length with
  | zero =>
    have : l = [] := List.length_eq_zero_iff.mp hc
    subst this
    refine Ev.succ ?_
    simp only [dancestudioref24_Check.l1, List.length_nil, ordS, ↓reduceIte]
    exact rchk_l2 [] n hl 0 0 rfl
  | succ m => exact rchk_l1 l n hl m 0 (by omega)
theorem rchk_l0 (l : List S29) (n : Int) (hl : l.length ≤ 1000000) : ∀ d j, j + d = l.length → Ev (fun k => dancestudioref24_Check.l0 k l n (j : Int)) (if chk1 (l.drop j) = 0 then (if ordS l = true then chkR3 n [] l else 5) else chk1 (l.drop j)) := by
  intro d
  induction d with
  | zero =>
    intro j hj
    refine Ev.succ ?_
    rw [show l.drop j = [] from List.drop_eq_nil_of_le (by omega)]
    simp only [dancestudioref24_Check.l0, ltI, show ¬ j < l.length by omega, ↓reduceIte, chk1]
    exact rchk_l1' l n hl
  | succ d ih =>
    intro j hj
    have h : j < l.length := by omega
    have ih' := ih (j + 1) (by omega)
    refine Ev.succ ?_
    rw [drop_cons29 h]
    simp only [dancestudioref24_Check.l0, ltI, h, ge0, ↓reduceIte, rd29_at h, wrapS h hl, chk1]
    refine Ev.bind (a := chkO l[j]) (Ev.at_ 3 fun m => refCheck_eq m _ _ _ _ _ _ _) ?_
    by_cases c : chkO l[j] = 0
    · simp only [c, ↓reduceIte]; exact ih'
    · simp only [c, ↓reduceIte]; exact Ev.now _
theorem chkR3_eq (n : Int) : ∀ (l p : List S29) (E : List Int), EndsOk p E → (∀ y ∈ p, chkO y = 0) → (∀ y ∈ l, chkO y = 0) → chkR3 n p l = chk3 n E l
  | [], p, E, _, _, _ => rfl
  | s :: l, p, E, hE, hp, hl => by
    have hs := hl s (by simp)
    simp only [chkR3, chk3, endW_eq s hs]
    by_cases h1 : n < endS s
    · rw [if_pos h1, if_pos h1]
    · rw [if_neg h1, if_neg h1]
      have e : p.any (hitE s) = true ↔ s.f2 < E.getD s.f1.toNat 0 := by
        rw [endsOk_hit hE hs hp, List.any_eq_true]
        constructor
        · rintro ⟨y, hy, h⟩
          simp only [hitE, Bool.and_eq_true, decide_eq_true_eq, endW_eq y (hp y hy)] at h
          exact ⟨y, hy, h⟩
        · rintro ⟨y, hy, h⟩
          exact ⟨y, hy, by simp only [hitE, Bool.and_eq_true, decide_eq_true_eq, endW_eq y (hp y hy)]; exact h⟩
      by_cases h2 : s.f2 < E.getD s.f1.toNat 0
      · rw [if_pos h2, if_pos (e.mpr h2)]
      · rw [if_neg h2, if_neg (fun h => h2 (e.mp h))]
        exact chkR3_eq n l (p ++ [s]) _ (endsOk_step hE hs h2) (by intro y hy; rcases List.mem_append.mp hy with hy | hy; exact hp y hy; simp at hy; subst hy; exact hs) (fun y hy => hl y (by simp [hy]))
/-- The reference's Check. -/
theorem rchk_eq (l : List S29) (n : Int) : Ev (fun k => dancestudioref24_Check.f k l n) (chkS l n) := by
  have j0 : ∀ b : Bool, b = decide (n < 1 ∨ 8192 < n) → Ev (fun k => dancestudioref24_Check.j0 k l n b) (chkS l n) := by
    rintro b rfl
    refine Ev.succ ?_
    unfold chkS
    simp only [dancestudioref24_Check.j0, GT.gt, decide_eq_true_eq]
    by_cases h1 : n < 1 ∨ 8192 < n
    · simp only [h1, ↓reduceIte]; exact Ev.now _
    · simp only [h1, ↓reduceIte]
      by_cases h2 : 256 < l.length
      · simp only [show (256 : Int) < (l.length : Int) by omega, h2, ↓reduceIte]; exact Ev.now _
      · simp only [show ¬ (256 : Int) < (l.length : Int) by omega, h2, ↓reduceIte]
        have h := rchk_l0 l n (by omega) l.length 0 (by omega)
        rw [List.drop_zero] at h
        refine Ev.eq h ?_
        by_cases h3 : chk1 l = 0
        · rw [if_pos h3, if_neg (not_not_intro h3)]
          have hall := (chk1_zero l).mp h3
          by_cases h4 : ordS l = true
          · rw [if_pos h4, if_neg (by rw [h4]; decide)]
            exact chkR3_eq n l [] _ endsOk_nil (by simp) hall
          · rw [if_neg h4, if_pos (by simpa using h4)]
        · rw [if_neg h3, if_pos h3]
  unfold dancestudioref24_Check.f
  by_cases h : n < 1
  · simp only [h, ↓reduceIte]; exact j0 true (by simp [h])
  · simp only [h, ↓reduceIte]; exact j0 _ (by simp [h])
end Go.Proofs.Ytdilndbanhianaa.P
end

-- Written by a program of this session (myprint.py over the kit's print): the Go functions of the seat as Lean functions, and what their calls do.
import Derived.Test.YtdilndbanhianaaVMA
import Derived.Test.YtdilndbanhianaaP34
import Derived.Test.YtdilndbanhianaaP36
import Derived.Test.YtdilndbanhianaaP42
import Derived.Test.YtdilndbanhianaaP50
import Derived.Test.YtdilndbanhianaaP51
import Derived.Test.YtdilndbanhianaaRpPerform
import Derived.Test.YtdilndbanhianaaRpSource
namespace Go.Proofs.Ytdilndbanhianaa.P
open Go.RowKit Go.Proofs.YtdilndbanhianaaW.PrintWords Go.Proofs.YtdilndbanhianaaW.PrintLast Go.Proofs.YtdilndbanhianaaW.PrintMore
attribute [local go_sem] max2_int min2_int max_two min_two max_three min_three max_four min_four   -- for this text's walks alone
set_option linter.unusedVariables false
set_option linter.unusedSimpArgs false

/-! ### dancestudiolaw26_RepeatsPerforms: function 13 -/
def dancestudiolaw26_RepeatsPerforms.f (k : Nat) (l0_0 : List (S29)) (a0_1 : Int) (l0_2 : List (S61)) (a1 : Int) : Option (Bool) := (dancestudiolaw26_great.f l0_0 a0_1 l0_2).bind fun t845 => (if t845 = true then ((dancestudiolaw26_awake.f k).bind fun t846 => (some t846)) else ((repeats_Perform.f l0_0 a0_1 l0_2).bind fun bt847 => ((dancestudioref26_Perform.f k l0_0 a0_1 l0_2).bind fun bt851 => ((repeats_Source.f l0_0 a0_1 l0_2 a1).bind fun bt855 => ((dancestudioref26_Source.f k l0_0 a0_1 l0_2 a1).bind fun bt857 => ((dancestudioref26_Same.f k bt847.1 bt851.1).bind fun t859 => (if t859 = true then (if bt847.2 = bt851.2 then (if bt855.1 = bt857.1 then (if bt855.2 = bt857.2 then ((dancestudiolaw26_awake.f k).bind fun t860 => (some t860)) else (none)) else (none)) else (none)) else (none))))))))
theorem dancestudiolaw26_RepeatsPerforms.mono : ∀ a0 a1 a2 a3 k, LeO (dancestudiolaw26_RepeatsPerforms.f k a0 a1 a2 a3) (dancestudiolaw26_RepeatsPerforms.f (k + 1) a0 a1 a2 a3) := by
 intro a0 a1 a2 a3 k
 unfold dancestudiolaw26_RepeatsPerforms.f
 repeat' first
   | (with_reducible exact dancestudiolaw26_awake.mono _)
   | (with_reducible exact dancestudioref26_Perform.mono _ _ _ _)
   | (with_reducible exact dancestudioref26_Same.mono _ _ _)
   | (with_reducible exact dancestudioref26_Source.mono _ _ _ _ _)
   | (with_reducible exact LeO.refl _)
   | (with_reducible exact LeO.none _)
   | (with_reducible refine LeO.ite ?_ ?_)
   | (with_reducible refine LeO.bind ?_ (fun _ => ?_))
   | exact dancestudiolaw26_awake.mono _
   | exact dancestudioref26_Perform.mono _ _ _ _
   | exact dancestudioref26_Same.mono _ _ _
   | exact dancestudioref26_Source.mono _ _ _ _ _
   | exact LeO.none _
   | refine LeO.ite ?_ ?_
   | refine LeO.bind ?_ (fun _ => ?_)
set_option maxHeartbeats 8000000 in
set_option maxRecDepth 100000 in
theorem dancestudiolaw26_RepeatsPerforms.calls (k : Nat) (A0_0 : Option Addr) (c0_0 : Nat) (l0_0 : List (S29)) (a0_1 : Int) (A0_2 : Option Addr) (c0_2 : Nat) (l0_2 : List (S61)) (a1 : Int) (r : Bool) (w : World) (hr0_0 : Kd.C k29 w A0_0 l0_0.length l0_0) (hc0_0 : l0_0.length ≤ c0_0) (hr0_2 : Kd.C k61 w A0_2 l0_2.length l0_2) (hc0_2 : l0_2.length ≤ c0_2) (h : dancestudiolaw26_RepeatsPerforms.f k l0_0 a0_1 l0_2 a1 = some r) :
  Calls Try.prog 13 #[.agg #[.slice A0_0 l0_0.length c0_0, .int .i64 a0_1, .slice A0_2 l0_2.length c0_2], .int .i64 a1] w fun e w' => e = .returned (.bool r) ∧ Below w.heap.size w w' := by
 have hu51 := Try.underlying51
 have HR0_0 := Aside0.mk hr0_0
 have HC0_0 := Aside0.mk hc0_0
 clear hr0_0 hc0_0
 have HR0_2 := Aside0.mk hr0_2
 have HC0_2 := Aside0.mk hc0_2
 clear hr0_2 hc0_2
 have HB := Aside0.mk (Below.refl w.heap.size w)
 have H : ((dancestudiolaw26_great.f l0_0 a0_1 l0_2).bind fun t845 => (if t845 = true then ((dancestudiolaw26_awake.f k).bind fun t846 => (some t846)) else ((repeats_Perform.f l0_0 a0_1 l0_2).bind fun bt847 => ((dancestudioref26_Perform.f k l0_0 a0_1 l0_2).bind fun bt851 => ((repeats_Source.f l0_0 a0_1 l0_2 a1).bind fun bt855 => ((dancestudioref26_Source.f k l0_0 a0_1 l0_2 a1).bind fun bt857 => ((dancestudioref26_Same.f k bt847.1 bt851.1).bind fun t859 => (if t859 = true then (if bt847.2 = bt851.2 then (if bt855.1 = bt857.1 then (if bt855.2 = bt857.2 then ((dancestudiolaw26_awake.f k).bind fun t860 => (some t860)) else (none)) else (none)) else (none)) else (none))))))))) = some r := h
 clear h
 replace H := Option.bind_eq_some_iff.mp H
 obtain ⟨t845, A30, H⟩ := H
 try dsimp only at H
 have A3 := Aside0.mk A30
 clear A30
 by_cases c4 : t845 = true
 ·subst c4
  have H1 : ((dancestudiolaw26_awake.f k).bind fun t846 => (some t846)) = some r := by rw [if_pos rfl] at H; exact H
  clear H
  have H := H1
  clear H1
  replace H := Option.bind_eq_some_iff.mp H
  obtain ⟨t846, A50, H⟩ := H
  replace H : (some t846) = some r := H
  have A5 := Aside0.mk A50
  clear A50
  obtain rfl := Option.some.inj H
  go_enter Try.func13, Try.ntmps13
  go_wp2_with (first | ((with_reducible refine gate_dst (N := 2) rfl ?_); refine box_event ?hg (N := 2) ?hd (cs := #[.slice A0_0 l0_0.length c0_0, .int .i64 a0_1, .slice A0_2 l0_2.length c0_2]) (t := 51) ?hr ?_; (case hd => rfl); (case hg => rfl); (case hr => first | (go_simp; done) | (go_simp; rfl)); intro gb844 hg w6 hbox hb; have n0_ := Aside0.mk (below_step (hU HB.out) hb); have n1_ := Aside0.mk (hbox); have n2_ := Aside0.mk ((by rw [hg]; exact (below_size (hU HB.out)) : w.heap.size ≤ gb844)); have n3_ := Aside0.mk ((by rw [hg]; exact (below_size (hU HB.out)) : w.heap.size ≤ gb844)); clear HB; have HB := n0_; have BK844 := n1_; have GW844 := n2_; have GE844 := n3_; clear n0_ n1_ n2_ n3_; clear hb hbox hg; have hcz7_0 := blk_cell BK844.out; have hfz7_0 := blk_frozen BK844.out) | ((with_reducible refine gate_callee (f := 36) rfl ?_); refine goesL_ (some 14) rfl rfl Try.func36 (by kernel_rfl) rfl #[.agg #[.slice A0_0 l0_0.length c0_0, .int .i64 a0_1, .slice A0_2 l0_2.length c0_2]] rfl (by (try simp only [List.map_toArray, List.map_cons, List.map_nil]); first | done | rfl | (simp only [List.length_drop, List.length_take]; rfl)) ?_; (with_reducible refine (dancestudiolaw26_great.calls _ _ l0_0 a0_1 _ _ l0_2 true _ ?side1 ?side2 ?side3 ?side4 A3.out).mono ?_); (case side1 => repeat (first | exact (Kd.C_below HR0_0.out HB.out) | (with_reducible refine Kd.C_alloc ?_ _) | (with_reducible refine Kd.C_drewN ?_ _) | (with_reducible refine Kd.C_drew ?_))); (case side2 => exact HC0_0.out); (case side3 => repeat (first | exact (Kd.C_below HR0_2.out HB.out) | (with_reducible refine Kd.C_alloc ?_ _) | (with_reducible refine Kd.C_drewN ?_ _) | (with_reducible refine Kd.C_drew ?_))); (case side4 => exact HC0_2.out); rintro e w8 ⟨rfl, hb⟩; refine ⟨_, rfl, ?_⟩; have n0_ := Aside0.mk (blk_below (bU BK844.out) hb); have n1_ := Aside0.mk (below_step (hU HB.out) hb); clear BK844; clear HB; have BK844 := n0_; have HB := n1_; clear n0_ n1_; (try clear hb); (try clear hb2); (try clear hk); (try clear hi)) | ((with_reducible refine gate_callee (f := 37) rfl ?_); refine goesL_ (some 15) rfl rfl Try.func37 (by kernel_rfl) rfl #[] rfl (by (try simp only [List.map_toArray, List.map_cons, List.map_nil]); first | done | rfl | (simp only [List.length_drop, List.length_take]; rfl)) ?_; (with_reducible refine (dancestudiolaw26_awake.calls k  t846 _ A5.out).mono ?_); rintro e w9 ⟨rfl, hb⟩; refine ⟨_, rfl, ?_⟩; have n0_ := Aside0.mk (blk_below (bU BK844.out) hb); have n1_ := Aside0.mk (below_step (hU HB.out) hb); clear BK844; clear HB; have BK844 := n0_; have HB := n1_; clear n0_ n1_; (try clear hb); (try clear hb2); (try clear hk); (try clear hi)))
  go_ret
  exact ⟨by first | rfl | (simp [errW_none, errW_some] <;> rfl) | (simp [*, errW_none, errW_some] <;> rfl), hU HB.out⟩
 ·replace c4 := Bool.eq_false_iff.mpr c4
  subst c4
  rw [if_neg (show ¬ (false = true) by decide)] at H
  replace H := Option.bind_eq_some_iff.mp H
  obtain ⟨⟨t847, t848⟩, A100, H⟩ := H
  try dsimp only at H
  have A10 := Aside0.mk A100
  clear A100
  replace H := Option.bind_eq_some_iff.mp H
  obtain ⟨⟨t851, t852⟩, A110, H⟩ := H
  try dsimp only at H
  have A11 := Aside0.mk A110
  clear A110
  replace H := Option.bind_eq_some_iff.mp H
  obtain ⟨⟨t855, t856⟩, A120, H⟩ := H
  try dsimp only at H
  have A12 := Aside0.mk A120
  clear A120
  replace H := Option.bind_eq_some_iff.mp H
  obtain ⟨⟨t857, t858⟩, A130, H⟩ := H
  try dsimp only at H
  have A13 := Aside0.mk A130
  clear A130
  replace H := Option.bind_eq_some_iff.mp H
  obtain ⟨t859, A140, H⟩ := H
  try dsimp only at H
  have A14 := Aside0.mk A140
  clear A140
  by_cases c15 : t859 = true
  ·subst c15
   rw [if_pos rfl] at H
   by_cases c16 : t848 = t852
   ·rw [if_pos c16] at H
    have c16b0 : (t848 == t852) = true := beq_iff_eq.mpr c16
    have c16b1 : (t848 != t852) = false := bne_eq_false_iff_eq.mpr c16
    clear c16
    by_cases c17 : t855 = t857
    ·rw [if_pos c17] at H
     have c17b0 : (t855 == t857) = true := beq_iff_eq.mpr c17
     have c17b1 : (t855 != t857) = false := bne_eq_false_iff_eq.mpr c17
     clear c17
     by_cases c18 : t856 = t858
     ·rw [if_pos c18] at H
      have c18b0 : (t856 == t858) = true := beq_iff_eq.mpr c18
      have c18b1 : (t856 != t858) = false := bne_eq_false_iff_eq.mpr c18
      clear c18
      replace H := Option.bind_eq_some_iff.mp H
      obtain ⟨t860, A190, H⟩ := H
      replace H : (some t860) = some r := H
      have A19 := Aside0.mk A190
      clear A190
      obtain rfl := Option.some.inj H
      go_enter Try.func13, Try.ntmps13
      go_wp2_with (first | ((with_reducible refine gate_dst (N := 2) rfl ?_); refine box_event ?hg (N := 2) ?hd (cs := #[.slice A0_0 l0_0.length c0_0, .int .i64 a0_1, .slice A0_2 l0_2.length c0_2]) (t := 51) ?hr ?_; (case hd => rfl); (case hg => rfl); (case hr => first | (go_simp; done) | (go_simp; rfl)); intro gb844 hg w20 hbox hb; have n0_ := Aside0.mk (below_step (hU HB.out) hb); have n1_ := Aside0.mk (hbox); have n2_ := Aside0.mk ((by rw [hg]; exact (below_size (hU HB.out)) : w.heap.size ≤ gb844)); have n3_ := Aside0.mk ((by rw [hg]; exact (below_size (hU HB.out)) : w.heap.size ≤ gb844)); clear HB; have HB := n0_; have BK844 := n1_; have GW844 := n2_; have GE844 := n3_; clear n0_ n1_ n2_ n3_; clear hb hbox hg; have hcz21_0 := blk_cell BK844.out; have hfz21_0 := blk_frozen BK844.out) | ((with_reducible refine gate_callee (f := 36) rfl ?_); refine goesL_ (some 14) rfl rfl Try.func36 (by kernel_rfl) rfl #[.agg #[.slice A0_0 l0_0.length c0_0, .int .i64 a0_1, .slice A0_2 l0_2.length c0_2]] rfl (by (try simp only [List.map_toArray, List.map_cons, List.map_nil]); first | done | rfl | (simp only [List.length_drop, List.length_take]; rfl)) ?_; (with_reducible refine (dancestudiolaw26_great.calls _ _ l0_0 a0_1 _ _ l0_2 false _ ?side1 ?side2 ?side3 ?side4 A3.out).mono ?_); (case side1 => repeat (first | exact (Kd.C_below HR0_0.out HB.out) | (with_reducible refine Kd.C_alloc ?_ _) | (with_reducible refine Kd.C_drewN ?_ _) | (with_reducible refine Kd.C_drew ?_))); (case side2 => exact HC0_0.out); (case side3 => repeat (first | exact (Kd.C_below HR0_2.out HB.out) | (with_reducible refine Kd.C_alloc ?_ _) | (with_reducible refine Kd.C_drewN ?_ _) | (with_reducible refine Kd.C_drew ?_))); (case side4 => exact HC0_2.out); rintro e w22 ⟨rfl, hb⟩; refine ⟨_, rfl, ?_⟩; have n0_ := Aside0.mk (blk_below (bU BK844.out) hb); have n1_ := Aside0.mk (below_step (hU HB.out) hb); clear BK844; clear HB; have BK844 := n0_; have HB := n1_; clear n0_ n1_; (try clear hb); (try clear hb2); (try clear hk); (try clear hi); have hcz23_0 := blk_cell BK844.out; have hfz23_0 := blk_frozen BK844.out) | ((with_reducible refine gate_callee (f := 42) rfl ?_); refine goesL_ (some 23) rfl rfl Try.func42 (by kernel_rfl) rfl #[.slice A0_0 l0_0.length c0_0, .int .i64 a0_1, .slice A0_2 l0_2.length c0_2] rfl (by (try simp only [List.map_toArray, List.map_cons, List.map_nil]); first | done | rfl | (simp only [List.length_drop, List.length_take]; rfl)) ?_; (with_reducible refine (repeats_Perform.calls _ _ l0_0 a0_1 _ _ l0_2 t847 t848 _ ?side1 ?side2 ?side3 ?side4 A10.out).mono ?_); (case side1 => repeat (first | exact (Kd.C_below HR0_0.out HB.out) | (with_reducible refine Kd.C_alloc ?_ _) | (with_reducible refine Kd.C_drewN ?_ _) | (with_reducible refine Kd.C_drew ?_))); (case side2 => exact HC0_0.out); (case side3 => repeat (first | exact (Kd.C_below HR0_2.out HB.out) | (with_reducible refine Kd.C_alloc ?_ _) | (with_reducible refine Kd.C_drewN ?_ _) | (with_reducible refine Kd.C_drew ?_))); (case side4 => exact HC0_2.out); rintro e w24 ⟨v849, rfl, ho0, hb⟩; refine ⟨_, rfl, ?_⟩; have n0_ := Aside0.mk (Kd.R_lower ho0 (below_size (hU HB.out))); have n1_ := Aside0.mk (blk_below (bU BK844.out) hb); have n2_ := Aside0.mk (below_step (hU HB.out) hb); clear BK844; clear HB; have HO850 := n0_; have BK844 := n1_; have HB := n2_; clear n0_ n1_ n2_; (try clear hb); (try clear hb2); (try clear hk); (try clear hi); (try clear ho0); have hcz25_0 := blk_cell BK844.out; have hfz25_0 := blk_frozen BK844.out) | ((with_reducible refine gate_callee (f := 43) rfl ?_); refine goesL_ (some 33) rfl rfl Try.func43 (by kernel_rfl) rfl #[.slice A0_0 l0_0.length c0_0, .int .i64 a0_1, .slice A0_2 l0_2.length c0_2] rfl (by (try simp only [List.map_toArray, List.map_cons, List.map_nil]); first | done | rfl | (simp only [List.length_drop, List.length_take]; rfl)) ?_; (with_reducible refine (dancestudioref26_Perform.calls k _ _ l0_0 a0_1 _ _ l0_2 t851 t852 _ ?side1 ?side2 ?side3 ?side4 A11.out).mono ?_); (case side1 => repeat (first | exact (Kd.C_below HR0_0.out HB.out) | (with_reducible refine Kd.C_alloc ?_ _) | (with_reducible refine Kd.C_drewN ?_ _) | (with_reducible refine Kd.C_drew ?_))); (case side2 => exact HC0_0.out); (case side3 => repeat (first | exact (Kd.C_below HR0_2.out HB.out) | (with_reducible refine Kd.C_alloc ?_ _) | (with_reducible refine Kd.C_drewN ?_ _) | (with_reducible refine Kd.C_drew ?_))); (case side4 => exact HC0_2.out); rintro e w26 ⟨v853, rfl, ho0, hb⟩; refine ⟨_, rfl, ?_⟩; have n0_ := Aside0.mk (Kd.R_elder' (Kd.rU HO850.out) (Kd.R_base ho0) hb); have n1_ := Aside0.mk (Kd.R_lower (Kd.R_new' ho0 (Kd.R_lt (Kd.rU HO850.out))) (below_size (hU HB.out))); have n2_ := Aside0.mk (blk_below (bU BK844.out) hb); have n3_ := Aside0.mk (below_step (hU HB.out) hb); clear HO850; clear BK844; clear HB; have HO850 := n0_; have HO854 := n1_; have BK844 := n2_; have HB := n3_; clear n0_ n1_ n2_ n3_; (try clear hb); (try clear hb2); (try clear hk); (try clear hi); (try clear ho0); have hcz27_0 := blk_cell BK844.out; have hfz27_0 := blk_frozen BK844.out) | ((with_reducible refine gate_callee (f := 44) rfl ?_); refine goesL_ (some 44) rfl rfl Try.func44 (by kernel_rfl) rfl #[.slice A0_0 l0_0.length c0_0, .int .i64 a0_1, .slice A0_2 l0_2.length c0_2, .int .i64 a1] rfl (by (try simp only [List.map_toArray, List.map_cons, List.map_nil]); first | done | rfl | (simp only [List.length_drop, List.length_take]; rfl)) ?_; (with_reducible refine (repeats_Source.calls _ _ l0_0 a0_1 _ _ l0_2 a1 t855 t856 _ ?side1 ?side2 ?side3 ?side4 A12.out).mono ?_); (case side1 => repeat (first | exact (Kd.C_below HR0_0.out HB.out) | (with_reducible refine Kd.C_alloc ?_ _) | (with_reducible refine Kd.C_drewN ?_ _) | (with_reducible refine Kd.C_drew ?_))); (case side2 => exact HC0_0.out); (case side3 => repeat (first | exact (Kd.C_below HR0_2.out HB.out) | (with_reducible refine Kd.C_alloc ?_ _) | (with_reducible refine Kd.C_drewN ?_ _) | (with_reducible refine Kd.C_drew ?_))); (case side4 => exact HC0_2.out); rintro e w28 ⟨rfl, hb⟩; refine ⟨_, rfl, ?_⟩; have n0_ := Aside0.mk (Kd.R_below (Kd.rU HO850.out) hb); have n1_ := Aside0.mk (Kd.R_below (Kd.rU HO854.out) hb); have n2_ := Aside0.mk (blk_below (bU BK844.out) hb); have n3_ := Aside0.mk (below_step (hU HB.out) hb); clear HO850; clear HO854; clear BK844; clear HB; have HO850 := n0_; have HO854 := n1_; have BK844 := n2_; have HB := n3_; clear n0_ n1_ n2_ n3_; (try clear hb); (try clear hb2); (try clear hk); (try clear hi); have hcz29_0 := blk_cell BK844.out; have hfz29_0 := blk_frozen BK844.out) | ((with_reducible refine gate_callee (f := 45) rfl ?_); refine goesL_ (some 55) rfl rfl Try.func45 (by kernel_rfl) rfl #[.slice A0_0 l0_0.length c0_0, .int .i64 a0_1, .slice A0_2 l0_2.length c0_2, .int .i64 a1] rfl (by (try simp only [List.map_toArray, List.map_cons, List.map_nil]); first | done | rfl | (simp only [List.length_drop, List.length_take]; rfl)) ?_; (with_reducible refine (dancestudioref26_Source.calls k _ _ l0_0 a0_1 _ _ l0_2 a1 t857 t858 _ ?side1 ?side2 ?side3 ?side4 A13.out).mono ?_); (case side1 => repeat (first | exact (Kd.C_below HR0_0.out HB.out) | (with_reducible refine Kd.C_alloc ?_ _) | (with_reducible refine Kd.C_drewN ?_ _) | (with_reducible refine Kd.C_drew ?_))); (case side2 => exact HC0_0.out); (case side3 => repeat (first | exact (Kd.C_below HR0_2.out HB.out) | (with_reducible refine Kd.C_alloc ?_ _) | (with_reducible refine Kd.C_drewN ?_ _) | (with_reducible refine Kd.C_drew ?_))); (case side4 => exact HC0_2.out); rintro e w30 ⟨rfl, hb⟩; refine ⟨_, rfl, ?_⟩; have n0_ := Aside0.mk (Kd.R_below (Kd.rU HO850.out) hb); have n1_ := Aside0.mk (Kd.R_below (Kd.rU HO854.out) hb); have n2_ := Aside0.mk (blk_below (bU BK844.out) hb); have n3_ := Aside0.mk (below_step (hU HB.out) hb); clear HO850; clear HO854; clear BK844; clear HB; have HO850 := n0_; have HO854 := n1_; have BK844 := n2_; have HB := n3_; clear n0_ n1_ n2_ n3_; (try clear hb); (try clear hb2); (try clear hk); (try clear hi); obtain ⟨Ao31, co31, eo31⟩ := Kd.R_slice HO850.out; subst eo31; obtain ⟨Ao32, co32, eo32⟩ := Kd.R_slice HO854.out; subst eo32) | ((with_reducible refine gate_callee (f := 46) rfl ?_); refine goesL_ (some 60) rfl rfl Try.func46 (by kernel_rfl) rfl #[.slice Ao31 t847.length co31, .slice Ao32 t851.length co32] rfl (by (try simp only [List.map_toArray, List.map_cons, List.map_nil]); first | done | rfl | (simp only [List.length_drop, List.length_take]; rfl)) ?_; (with_reducible refine (dancestudioref26_Same.calls k _ _ t847 _ _ t851 true _ ?side1 ?side2 ?side3 ?side4 A14.out).mono ?_); (case side1 => repeat (first | exact (Kd.R_reads' HO850.out).2.2 | (with_reducible refine Kd.C_alloc ?_ _) | (with_reducible refine Kd.C_drewN ?_ _) | (with_reducible refine Kd.C_drew ?_))); (case side2 => exact (Kd.R_reads' HO850.out).2.1); (case side3 => repeat (first | exact (Kd.R_reads' HO854.out).2.2 | (with_reducible refine Kd.C_alloc ?_ _) | (with_reducible refine Kd.C_drewN ?_ _) | (with_reducible refine Kd.C_drew ?_))); (case side4 => exact (Kd.R_reads' HO854.out).2.1); rintro e w' ⟨rfl, ⟨nd, rfl⟩⟩; refine ⟨_, rfl, ?_⟩) | (go_at_call 37; (with_reducible refine (dancestudiolaw26_awake.calls k  t860 _ A19.out).mono ?_); rintro e w33 ⟨rfl, hb⟩; have n0_ := Aside0.mk (Kd.R_below (Kd.rU HO850.out) hb); have n1_ := Aside0.mk (Kd.R_below (Kd.rU HO854.out) hb); have n2_ := Aside0.mk (blk_below (bU BK844.out) hb); have n3_ := Aside0.mk (below_step (hU HB.out) hb); clear HO850; clear HO854; clear BK844; clear HB; have HO850 := n0_; have HO854 := n1_; have BK844 := n2_; have HB := n3_; clear n0_ n1_ n2_ n3_; (try clear hb); (try clear hb2); (try clear hk); (try clear hi)))
      go_ret
      exact ⟨by first | rfl | (simp [errW_none, errW_some] <;> rfl) | (simp [*, errW_none, errW_some] <;> rfl), hU HB.out⟩
     ·rw [if_neg c18] at H
      exact absurd H (by simp)
    ·rw [if_neg c17] at H
     exact absurd H (by simp)
   ·rw [if_neg c16] at H
    exact absurd H (by simp)
  ·replace c15 := Bool.eq_false_iff.mpr c15
   subst c15
   have H1 : (none) = some r := by rw [if_neg (show ¬ (false = true) by decide)] at H; exact H
   clear H
   have H := H1
   clear H1
   exact absurd H (by simp)

end Go.Proofs.Ytdilndbanhianaa.P

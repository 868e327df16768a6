-- Written by a program of this session (myprint.py over the kit's print): the Go functions of the seat as Lean functions, and what their calls do.
import Derived.Test.YtdilndbanhianaaVMA
import Derived.Test.YtdilndbanhianaaVMC
import Derived.Test.YtdilndbanhianaaP36
import Derived.Test.YtdilndbanhianaaP41
import Derived.Test.YtdilndbanhianaaP42
import Derived.Test.YtdilndbanhianaaRpPerform
namespace Go.Proofs.Ytdilndbanhianaa.P
open Go.RowKit Go.Proofs.YtdilndbanhianaaW.PrintWords Go.Proofs.YtdilndbanhianaaW.PrintLast Go.Proofs.YtdilndbanhianaaW.PrintMore
attribute [local go_sem] max2_int min2_int max_two min_two max_three min_three max_four min_four   -- for this text's walks alone
set_option linter.unusedVariables false
set_option linter.unusedSimpArgs false

/-! ### dancestudiolaw26_RepeatsWhole: function 18 -/
def dancestudiolaw26_RepeatsWhole.f (k : Nat) (l0 : List (S29)) (a1 : Int) : Option (Bool) := if (l0.length : Int) > 60 then ((dancestudiolaw26_awake.f k).bind fun t1031 => (some t1031)) else ((repeats_Perform.f l0 a1 ([] : List (S61))).bind fun bt1032 => ((staff_Check.f l0 a1).bind fun t1036 => (if t1036 = 0 then (if bt1032.2 = 0 then ((dancestudioref26_Same.f k bt1032.1 l0).bind fun t1037 => (if t1037 = true then ((staff_Join.f l0 a1 l0 a1).bind fun bt1038 => ((dancestudiolaw26_twice.f 0 a1 2).bind fun bt1042 => ((repeats_Perform.f l0 a1 (([(⟨(⟨bt1042.1, bt1042.2.1⟩ : S45), bt1042.2.2⟩ : S61)] : List (S61)))).bind fun bt1048 => (if bt1038.2 = 0 then (if bt1048.2 = 0 then ((dancestudioref26_Same.f k bt1048.1 bt1038.1).bind fun t1052 => (if t1052 = true then ((dancestudiolaw26_awake.f k).bind fun t1053 => (some t1053)) else (none))) else (none)) else (if bt1048.2 = 0 then (none) else ((dancestudiolaw26_awake.f k).bind fun t1054 => (some t1054))))))) else (none))) else (none)) else (if (bt1032.1.length : Int) = 0 then (if bt1032.2 = t1036 then ((dancestudiolaw26_awake.f k).bind fun t1055 => (some t1055)) else (none)) else (none)))))
theorem dancestudiolaw26_RepeatsWhole.mono : ∀ a0 a1 k, LeO (dancestudiolaw26_RepeatsWhole.f k a0 a1) (dancestudiolaw26_RepeatsWhole.f (k + 1) a0 a1) := by
 intro a0 a1 k
 unfold dancestudiolaw26_RepeatsWhole.f
 repeat' first
   | (with_reducible exact dancestudiolaw26_awake.mono _)
   | (with_reducible exact dancestudioref26_Same.mono _ _ _)
   | (with_reducible exact LeO.refl _)
   | (with_reducible exact LeO.none _)
   | (with_reducible refine LeO.ite ?_ ?_)
   | (with_reducible refine LeO.bind ?_ (fun _ => ?_))
   | exact dancestudiolaw26_awake.mono _
   | exact dancestudioref26_Same.mono _ _ _
   | exact LeO.none _
   | refine LeO.ite ?_ ?_
   | refine LeO.bind ?_ (fun _ => ?_)
set_option maxHeartbeats 8000000 in
set_option maxRecDepth 100000 in
theorem dancestudiolaw26_RepeatsWhole.calls (k : Nat) (A0 : Option Addr) (c0 : Nat) (l0 : List (S29)) (a1 : Int) (r : Bool) (w : World) (hr0 : Kd.C k29 w A0 l0.length l0) (hc0 : l0.length ≤ c0) (h : dancestudiolaw26_RepeatsWhole.f k l0 a1 = some r) :
  Calls Try.prog 18 #[.slice A0 l0.length c0, .int .i64 a1] w fun e w' => e = .returned (.bool r) ∧ Below w.heap.size w w' := by
 have HR0 := Aside0.mk hr0
 have HC0 := Aside0.mk hc0
 clear hr0 hc0
 have HB := Aside0.mk (Below.refl w.heap.size w)
 have H : (if (l0.length : Int) > 60 then ((dancestudiolaw26_awake.f k).bind fun t1031 => (some t1031)) else ((repeats_Perform.f l0 a1 ([] : List (S61))).bind fun bt1032 => ((staff_Check.f l0 a1).bind fun t1036 => (if t1036 = 0 then (if bt1032.2 = 0 then ((dancestudioref26_Same.f k bt1032.1 l0).bind fun t1037 => (if t1037 = true then ((staff_Join.f l0 a1 l0 a1).bind fun bt1038 => ((dancestudiolaw26_twice.f 0 a1 2).bind fun bt1042 => ((repeats_Perform.f l0 a1 (([(⟨(⟨bt1042.1, bt1042.2.1⟩ : S45), bt1042.2.2⟩ : S61)] : List (S61)))).bind fun bt1048 => (if bt1038.2 = 0 then (if bt1048.2 = 0 then ((dancestudioref26_Same.f k bt1048.1 bt1038.1).bind fun t1052 => (if t1052 = true then ((dancestudiolaw26_awake.f k).bind fun t1053 => (some t1053)) else (none))) else (none)) else (if bt1048.2 = 0 then (none) else ((dancestudiolaw26_awake.f k).bind fun t1054 => (some t1054))))))) else (none))) else (none)) else (if (bt1032.1.length : Int) = 0 then (if bt1032.2 = t1036 then ((dancestudiolaw26_awake.f k).bind fun t1055 => (some t1055)) else (none)) else (none)))))) = some r := h
 clear h
 by_cases c3 : (l0.length : Int) > 60
 ·rw [if_pos c3] at H
  have c3b0 : decide (60 < (l0.length : Int)) = true := decide_eq_true c3
  have c3b1 : decide (60 < l0.length) = true := decide_eq_true (by omega)
  clear c3
  replace H := Option.bind_eq_some_iff.mp H
  obtain ⟨t1031, A40, H⟩ := H
  replace H : (some t1031) = some r := H
  have A4 := Aside0.mk A40
  clear A40
  obtain rfl := Option.some.inj H
  go_enter Try.func18, Try.ntmps18
  go_wp2_with (first | ((with_reducible refine gate_callee (f := 37) rfl ?_); refine goesL_ (some 13) rfl rfl Try.func37 (by kernel_rfl) rfl #[] rfl (by (try simp only [List.map_toArray, List.map_cons, List.map_nil]); first | done | rfl | (simp only [List.length_drop, List.length_take]; rfl)) ?_; (with_reducible refine (dancestudiolaw26_awake.calls k  t1031 _ A4.out).mono ?_); rintro e w5 ⟨rfl, hb⟩; refine ⟨_, rfl, ?_⟩; have n0_ := Aside0.mk (below_step (hU HB.out) hb); clear HB; have HB := n0_; clear n0_; (try clear hb); (try clear hb2); (try clear hk); (try clear hi)))
  go_ret
  exact ⟨by first | rfl | (simp [errW_none, errW_some] <;> rfl) | (simp [*, errW_none, errW_some] <;> rfl), hU HB.out⟩
 ·rw [if_neg c3] at H
  have c3b0 : decide (60 < (l0.length : Int)) = false := decide_eq_false c3
  have c3b1 : decide (60 < l0.length) = false := decide_eq_false (by omega)
  clear c3
  replace H := Option.bind_eq_some_iff.mp H
  obtain ⟨⟨t1032, t1033⟩, A60, H⟩ := H
  try dsimp only at H
  have A6 := Aside0.mk A60
  clear A60
  replace H := Option.bind_eq_some_iff.mp H
  obtain ⟨t1036, A70, H⟩ := H
  try dsimp only at H
  have A7 := Aside0.mk A70
  clear A70
  by_cases c8 : t1036 = 0
  ·rw [if_pos c8] at H
   have c8b0 : (t1036 == 0) = true := beq_iff_eq.mpr c8
   have c8b1 : (t1036 != 0) = false := bne_eq_false_iff_eq.mpr c8
   clear c8
   by_cases c9 : t1033 = 0
   ·rw [if_pos c9] at H
    have c9b0 : (t1033 == 0) = true := beq_iff_eq.mpr c9
    have c9b1 : (t1033 != 0) = false := bne_eq_false_iff_eq.mpr c9
    clear c9
    replace H := Option.bind_eq_some_iff.mp H
    obtain ⟨t1037, A100, H⟩ := H
    try dsimp only at H
    have A10 := Aside0.mk A100
    clear A100
    by_cases c11 : t1037 = true
    ·subst c11
     rw [if_pos rfl] at H
     replace H := Option.bind_eq_some_iff.mp H
     obtain ⟨⟨t1038, t1039⟩, A120, H⟩ := H
     try dsimp only at H
     have A12 := Aside0.mk A120
     clear A120
     replace H := Option.bind_eq_some_iff.mp H
     obtain ⟨⟨t1042, t1043, t1044⟩, A130, H⟩ := H
     try dsimp only at H
     have A13 := Aside0.mk A130
     clear A130
     obtain ⟨y1045, hy1045⟩ : ∃ y_ : List (S61), y_ = (([(⟨(⟨t1042, t1043⟩ : S45), t1044⟩ : S61)] : List (S61))) := ⟨_, rfl⟩
     replace H : ((repeats_Perform.f l0 a1 y1045).bind fun bt1048 => (if t1039 = 0 then (if bt1048.2 = 0 then ((dancestudioref26_Same.f k bt1048.1 t1038).bind fun t1052 => (if t1052 = true then ((dancestudiolaw26_awake.f k).bind fun t1053 => (some t1053)) else (none))) else (none)) else (if bt1048.2 = 0 then (none) else ((dancestudiolaw26_awake.f k).bind fun t1054 => (some t1054))))) = some r := by first | (rw [hy1045]; with_reducible exact H) | (have H2_ := (Option.bind_some _ _).symm.trans H; rw [hy1045]; with_reducible exact H2_) | (have H2_ := (Option.bind_some _ _).symm.trans H; with_reducible exact H2_) | with_reducible exact H | (rw [hy1045]; exact H) | exact H
     have Ny1045 := Aside0.mk hy1045
     clear hy1045
     replace H := Option.bind_eq_some_iff.mp H
     obtain ⟨⟨t1048, t1049⟩, A140, H⟩ := H
     try dsimp only at H
     have A14 := Aside0.mk A140
     clear A140
     by_cases c15 : t1039 = 0
     ·rw [if_pos c15] at H
      have c15b0 : (t1039 == 0) = true := beq_iff_eq.mpr c15
      have c15b1 : (t1039 != 0) = false := bne_eq_false_iff_eq.mpr c15
      clear c15
      by_cases c16 : t1049 = 0
      ·rw [if_pos c16] at H
       have c16b0 : (t1049 == 0) = true := beq_iff_eq.mpr c16
       have c16b1 : (t1049 != 0) = false := bne_eq_false_iff_eq.mpr c16
       clear c16
       replace H := Option.bind_eq_some_iff.mp H
       obtain ⟨t1052, A170, H⟩ := H
       replace H : (if t1052 = true then ((dancestudiolaw26_awake.f k).bind fun t1053 => (some t1053)) else (none)) = some r := H
       have A17 := Aside0.mk A170
       clear A170
       by_cases c18 : t1052 = true
       ·subst c18
        have H1 : ((dancestudiolaw26_awake.f k).bind fun t1053 => (some t1053)) = some r := by rw [if_pos rfl] at H; exact H
        clear H
        have H := H1
        clear H1
        replace H := Option.bind_eq_some_iff.mp H
        obtain ⟨t1053, A190, H⟩ := H
        replace H : (some t1053) = some r := H
        have A19 := Aside0.mk A190
        clear A190
        obtain rfl := Option.some.inj H
        go_enter Try.func18, Try.ntmps18
        go_wp2_with (first | ((with_reducible refine gate_callee (f := 42) rfl ?_); refine goesL_ (some 17) rfl rfl Try.func42 (by kernel_rfl) rfl #[.slice A0 l0.length c0, .int .i64 a1, .slice none 0 0] rfl (by (try simp only [List.map_toArray, List.map_cons, List.map_nil]); first | done | rfl | (simp only [List.length_drop, List.length_take]; rfl)) ?_; (refine (repeats_Perform.calls _ _ l0 a1 _ _ ([] : List (S61)) t1032 t1033 _ ?side1 ?side2 ?side3 ?side4 A6.out).mono ?_); (case side1 => repeat (first | exact HR0.out | (with_reducible refine Kd.C_alloc ?_ _) | (with_reducible refine Kd.C_drewN ?_ _) | (with_reducible refine Kd.C_drew ?_))); (case side2 => exact HC0.out); (case side3 => exact Kd.C_nil _ _); (case side4 => exact Nat.le_refl _); rintro e w20 ⟨v1034, rfl, ho0, hb⟩; refine ⟨_, rfl, ?_⟩; have n0_ := Aside0.mk (Kd.R_lower ho0 (below_size (hU HB.out))); have n1_ := Aside0.mk (below_step (hU HB.out) hb); clear HB; have HO1035 := n0_; have HB := n1_; clear n0_ n1_; (try clear hb); (try clear hb2); (try clear hk); (try clear hi); (try clear ho0)) | ((with_reducible refine gate_callee (f := 20) rfl ?_); refine goesL_ (some 22) rfl rfl Try.func20 (by kernel_rfl) rfl #[.slice A0 l0.length c0, .int .i64 a1] rfl (by (try simp only [List.map_toArray, List.map_cons, List.map_nil]); first | done | rfl | (simp only [List.length_drop, List.length_take]; rfl)) ?_; (with_reducible refine (staff_Check.calls _ _ l0 a1 t1036 _ ?side1 ?side2 A7.out).mono ?_); (case side1 => repeat (first | exact (Kd.C_below HR0.out HB.out) | (with_reducible refine Kd.C_alloc ?_ _) | (with_reducible refine Kd.C_drewN ?_ _) | (with_reducible refine Kd.C_drew ?_))); (case side2 => exact HC0.out); rintro e w21 ⟨rfl, hb⟩; refine ⟨_, rfl, ?_⟩; have n0_ := Aside0.mk (Kd.R_below (Kd.rU HO1035.out) hb); have n1_ := Aside0.mk (below_step (hU HB.out) hb); clear HO1035; clear HB; have HO1035 := n0_; have HB := n1_; clear n0_ n1_; (try clear hb); (try clear hb2); (try clear hk); (try clear hi); obtain ⟨Ao22, co22, eo22⟩ := Kd.R_slice HO1035.out; subst eo22) | (go_at_call 46; (with_reducible refine (dancestudioref26_Same.calls k _ _ t1032 _ _ l0 true _ ?side1 ?side2 ?side3 ?side4 A10.out).mono ?_); (case side1 => repeat (first | exact (Kd.R_reads' HO1035.out).2.2 | (with_reducible refine Kd.C_alloc ?_ _) | (with_reducible refine Kd.C_drewN ?_ _) | (with_reducible refine Kd.C_drew ?_))); (case side2 => exact (Kd.R_reads' HO1035.out).2.1); (case side3 => repeat (first | exact (Kd.C_below HR0.out HB.out) | (with_reducible refine Kd.C_alloc ?_ _) | (with_reducible refine Kd.C_drewN ?_ _) | (with_reducible refine Kd.C_drew ?_))); (case side4 => exact HC0.out); rintro e w' ⟨rfl, ⟨nd, rfl⟩⟩) | ((with_reducible refine gate_callee (f := 32) rfl ?_); refine goesL_ (some 49) rfl rfl Try.func32 (by kernel_rfl) rfl #[.slice A0 l0.length c0, .int .i64 a1, .slice A0 l0.length c0, .int .i64 a1] rfl (by (try simp only [List.map_toArray, List.map_cons, List.map_nil]); first | done | rfl | (simp only [List.length_drop, List.length_take]; rfl)) ?_; (with_reducible refine (staff_Join.calls _ _ l0 a1 _ _ l0 a1 t1038 t1039 _ ?side1 ?side2 ?side3 ?side4 A12.out).mono ?_); (case side1 => repeat (first | exact (Kd.C_below HR0.out (hU HB.out)) | (with_reducible refine Kd.C_alloc ?_ _) | (with_reducible refine Kd.C_drewN ?_ _) | (with_reducible refine Kd.C_drew ?_))); (case side2 => exact HC0.out); (case side3 => repeat (first | exact (Kd.C_below HR0.out (hU HB.out)) | (with_reducible refine Kd.C_alloc ?_ _) | (with_reducible refine Kd.C_drewN ?_ _) | (with_reducible refine Kd.C_drew ?_))); (case side4 => exact HC0.out); rintro e w23 ⟨v1040, rfl, ho0, hb⟩; refine ⟨_, rfl, ?_⟩; have n0_ := Aside0.mk (Kd.R_elder' (Kd.rU HO1035.out) (Kd.R_base ho0) hb); have n1_ := Aside0.mk (Kd.R_lower (Kd.R_new' ho0 (Kd.R_lt (Kd.rU HO1035.out))) (below_size (hU HB.out))); have n2_ := Aside0.mk (below_step (hU HB.out) hb); clear HO1035; clear HB; have HO1035 := n0_; have HO1041 := n1_; have HB := n2_; clear n0_ n1_ n2_; (try clear hb); (try clear hb2); (try clear hk); (try clear hi); (try clear ho0)) | ((with_reducible refine gate_callee (f := 51) rfl ?_); refine goesL_ (some 56) rfl rfl Try.func51 (by kernel_rfl) rfl #[.int .i64 0, .int .i64 a1, .int .i64 2] rfl (by (try simp only [List.map_toArray, List.map_cons, List.map_nil]); first | done | rfl | (simp only [List.length_drop, List.length_take]; rfl)) ?_; (with_reducible refine (dancestudiolaw26_twice.calls 0 a1 2 t1042 t1043 t1044 _ A13.out).mono ?_); rintro e w24 ⟨rfl, hb⟩; refine ⟨_, rfl, ?_⟩; have n0_ := Aside0.mk (Kd.R_below (Kd.rU HO1035.out) hb); have n1_ := Aside0.mk (Kd.R_below (Kd.rU HO1041.out) hb); have n2_ := Aside0.mk (below_step (hU HB.out) hb); clear HO1035; clear HO1041; clear HB; have HO1035 := n0_; have HO1041 := n1_; have HB := n2_; clear n0_ n1_ n2_; (try clear hb); (try clear hb2); (try clear hk); (try clear hi)) | ((with_reducible refine gate_dst (N := 57) rfl ?_); refine Kd.R_lit k61 _ 61 ?hg (N := 57) ?hd (xs := ([(⟨(⟨t1042, t1043⟩ : S45), t1044⟩ : S61)] : List (S61))) (inner := [.int .i64 t1042, .int .i64 t1043, .int .i64 t1044]) (ok := fun _ => True) (okp := fun _ => True) ?hr ?hp (fun _ hk => hk) trivial (Below.refl _ _) (Nat.le_refl _) (by simp) ?_; (case hd => rfl); (case hg => rfl); (case hr => first | (go_simp; done) | (go_simp; rfl)); (case hp => exact (Reps.c3 (show Kd.M k61 _ _ _ (⟨(⟨t1042, t1043⟩ : S45), t1044⟩ : S61) [.int .i64 t1042, .int .i64 t1043, .int .i64 t1044] from (k61_mkM _ _ _ (⟨(⟨t1042, t1043⟩ : S45), t1044⟩ : S61) )) (Reps.none _ _))); intro v1046 w25 ho26 hb hg_ hnew_; clear hg_ hnew_; (first | rw [← Ny1045.out] at ho26 | (simp only [Int.reduceToNat] at ho26; rw [← Ny1045.out] at ho26)); have n0_ := Aside0.mk (Kd.R_below (Kd.rU HO1035.out) hb); have n1_ := Aside0.mk (Kd.R_below (Kd.rU HO1041.out) hb); have n2_ := Aside0.mk (Kd.R_lower ho26 (below_size (hU HB.out))); have n3_ := Aside0.mk (below_step (hU HB.out) hb); clear HO1035; clear HO1041; clear HB; have HO1035 := n0_; have HO1041 := n1_; have HO1047 := n2_; have HB := n3_; clear n0_ n1_ n2_ n3_; clear hb ho26; obtain ⟨Ao27, co27, eo27⟩ := Kd.R_slice HO1047.out; subst eo27) | ((with_reducible refine gate_callee (f := 42) rfl ?_); refine goesL_ (some 58) rfl rfl Try.func42 (by kernel_rfl) rfl #[.slice A0 l0.length c0, .int .i64 a1, .slice Ao27 y1045.length co27] rfl (by (try simp only [List.map_toArray, List.map_cons, List.map_nil]); first | done | rfl | (simp only [List.length_drop, List.length_take]; rfl)) ?_; (with_reducible refine (repeats_Perform.calls _ _ l0 a1 _ _ y1045 t1048 t1049 _ ?side1 ?side2 ?side3 ?side4 A14.out).mono ?_); (case side1 => repeat (first | exact (Kd.C_below HR0.out HB.out) | (with_reducible refine Kd.C_alloc ?_ _) | (with_reducible refine Kd.C_drewN ?_ _) | (with_reducible refine Kd.C_drew ?_))); (case side2 => exact HC0.out); (case side3 => repeat (first | exact (Kd.R_reads' HO1047.out).2.2 | (with_reducible refine Kd.C_alloc ?_ _) | (with_reducible refine Kd.C_drewN ?_ _) | (with_reducible refine Kd.C_drew ?_))); (case side4 => exact (Kd.R_reads' HO1047.out).2.1); rintro e w28 ⟨v1050, rfl, ho0, hb⟩; refine ⟨_, rfl, ?_⟩; have n0_ := Aside0.mk (Kd.R_elder' (Kd.rU HO1035.out) (Kd.R_base ho0) hb); have n1_ := Aside0.mk (Kd.R_elder' (Kd.rU HO1041.out) (Kd.R_base ho0) hb); have n2_ := Aside0.mk (Kd.R_below (Kd.rU HO1047.out) hb); have n3_ := Aside0.mk (Kd.R_lower (Kd.R_new' (Kd.R_new' ho0 (Kd.R_lt (Kd.rU HO1035.out))) (Kd.R_lt (Kd.rU HO1041.out))) (below_size (hU HB.out))); have n4_ := Aside0.mk (below_step (hU HB.out) hb); clear HO1035; clear HO1041; clear HO1047; clear HB; have HO1035 := n0_; have HO1041 := n1_; have HO1047 := n2_; have HO1051 := n3_; have HB := n4_; clear n0_ n1_ n2_ n3_ n4_; (try clear hb); (try clear hb2); (try clear hk); (try clear hi); (try clear ho0); obtain ⟨Ao29, co29, eo29⟩ := Kd.R_slice HO1051.out; subst eo29; obtain ⟨Ao30, co30, eo30⟩ := Kd.R_slice HO1041.out; subst eo30) | (go_at_call 46; (with_reducible refine (dancestudioref26_Same.calls k _ _ t1048 _ _ t1038 true _ ?side1 ?side2 ?side3 ?side4 A17.out).mono ?_); (case side1 => repeat (first | exact (Kd.R_reads' HO1051.out).2.2 | (with_reducible refine Kd.C_alloc ?_ _) | (with_reducible refine Kd.C_drewN ?_ _) | (with_reducible refine Kd.C_drew ?_))); (case side2 => exact (Kd.R_reads' HO1051.out).2.1); (case side3 => repeat (first | exact (Kd.R_reads' HO1041.out).2.2 | (with_reducible refine Kd.C_alloc ?_ _) | (with_reducible refine Kd.C_drewN ?_ _) | (with_reducible refine Kd.C_drew ?_))); (case side4 => exact (Kd.R_reads' HO1041.out).2.1); rintro e w' ⟨rfl, ⟨nd, rfl⟩⟩) | (go_at_call 37; (with_reducible refine (dancestudiolaw26_awake.calls k  t1053 _ A19.out).mono ?_); rintro e w31 ⟨rfl, hb⟩; have n0_ := Aside0.mk (Kd.R_below (Kd.rU HO1035.out) hb); have n1_ := Aside0.mk (Kd.R_below (Kd.rU HO1041.out) hb); have n2_ := Aside0.mk (Kd.R_below (Kd.rU HO1047.out) hb); have n3_ := Aside0.mk (Kd.R_below (Kd.rU HO1051.out) hb); have n4_ := Aside0.mk (below_step (hU HB.out) hb); clear HO1035; clear HO1041; clear HO1047; clear HO1051; clear HB; have HO1035 := n0_; have HO1041 := n1_; have HO1047 := n2_; have HO1051 := n3_; have HB := n4_; clear n0_ n1_ n2_ n3_ n4_; (try clear hb); (try clear hb2); (try clear hk); (try clear hi)))
        go_ret
        exact ⟨by first | rfl | (simp [errW_none, errW_some] <;> rfl) | (simp [*, errW_none, errW_some] <;> rfl), hU HB.out⟩
       ·replace c18 := Bool.eq_false_iff.mpr c18
        subst c18
        have H1 : (none) = some r := by rw [if_neg (show ¬ (false = true) by decide)] at H; exact H
        clear H
        have H := H1
        clear H1
        exact absurd H (by simp)
      ·rw [if_neg c16] at H
       exact absurd H (by simp)
     ·rw [if_neg c15] at H
      have c15b0 : (t1039 == 0) = false := beq_eq_false_iff_ne.mpr c15
      have c15b1 : (t1039 != 0) = true := bne_iff_ne.mpr c15
      by_cases c32 : t1049 = 0
      ·rw [if_pos c32] at H
       exact absurd H (by simp)
      ·rw [if_neg c32] at H
       have c32b0 : (t1049 == 0) = false := beq_eq_false_iff_ne.mpr c32
       have c32b1 : (t1049 != 0) = true := bne_iff_ne.mpr c32
       replace H := Option.bind_eq_some_iff.mp H
       obtain ⟨t1054, A330, H⟩ := H
       replace H : (some t1054) = some r := H
       have A33 := Aside0.mk A330
       clear A330
       obtain rfl := Option.some.inj H
       go_enter Try.func18, Try.ntmps18
       go_wp2_with (first | ((with_reducible refine gate_callee (f := 42) rfl ?_); refine goesL_ (some 17) rfl rfl Try.func42 (by kernel_rfl) rfl #[.slice A0 l0.length c0, .int .i64 a1, .slice none 0 0] rfl (by (try simp only [List.map_toArray, List.map_cons, List.map_nil]); first | done | rfl | (simp only [List.length_drop, List.length_take]; rfl)) ?_; (refine (repeats_Perform.calls _ _ l0 a1 _ _ ([] : List (S61)) t1032 t1033 _ ?side1 ?side2 ?side3 ?side4 A6.out).mono ?_); (case side1 => repeat (first | exact HR0.out | (with_reducible refine Kd.C_alloc ?_ _) | (with_reducible refine Kd.C_drewN ?_ _) | (with_reducible refine Kd.C_drew ?_))); (case side2 => exact HC0.out); (case side3 => exact Kd.C_nil _ _); (case side4 => exact Nat.le_refl _); rintro e w34 ⟨v1034, rfl, ho0, hb⟩; refine ⟨_, rfl, ?_⟩; have n0_ := Aside0.mk (Kd.R_lower ho0 (below_size (hU HB.out))); have n1_ := Aside0.mk (below_step (hU HB.out) hb); clear HB; have HO1035 := n0_; have HB := n1_; clear n0_ n1_; (try clear hb); (try clear hb2); (try clear hk); (try clear hi); (try clear ho0)) | ((with_reducible refine gate_callee (f := 20) rfl ?_); refine goesL_ (some 22) rfl rfl Try.func20 (by kernel_rfl) rfl #[.slice A0 l0.length c0, .int .i64 a1] rfl (by (try simp only [List.map_toArray, List.map_cons, List.map_nil]); first | done | rfl | (simp only [List.length_drop, List.length_take]; rfl)) ?_; (with_reducible refine (staff_Check.calls _ _ l0 a1 t1036 _ ?side1 ?side2 A7.out).mono ?_); (case side1 => repeat (first | exact (Kd.C_below HR0.out HB.out) | (with_reducible refine Kd.C_alloc ?_ _) | (with_reducible refine Kd.C_drewN ?_ _) | (with_reducible refine Kd.C_drew ?_))); (case side2 => exact HC0.out); rintro e w35 ⟨rfl, hb⟩; refine ⟨_, rfl, ?_⟩; have n0_ := Aside0.mk (Kd.R_below (Kd.rU HO1035.out) hb); have n1_ := Aside0.mk (below_step (hU HB.out) hb); clear HO1035; clear HB; have HO1035 := n0_; have HB := n1_; clear n0_ n1_; (try clear hb); (try clear hb2); (try clear hk); (try clear hi); obtain ⟨Ao36, co36, eo36⟩ := Kd.R_slice HO1035.out; subst eo36) | (go_at_call 46; (with_reducible refine (dancestudioref26_Same.calls k _ _ t1032 _ _ l0 true _ ?side1 ?side2 ?side3 ?side4 A10.out).mono ?_); (case side1 => repeat (first | exact (Kd.R_reads' HO1035.out).2.2 | (with_reducible refine Kd.C_alloc ?_ _) | (with_reducible refine Kd.C_drewN ?_ _) | (with_reducible refine Kd.C_drew ?_))); (case side2 => exact (Kd.R_reads' HO1035.out).2.1); (case side3 => repeat (first | exact (Kd.C_below HR0.out HB.out) | (with_reducible refine Kd.C_alloc ?_ _) | (with_reducible refine Kd.C_drewN ?_ _) | (with_reducible refine Kd.C_drew ?_))); (case side4 => exact HC0.out); rintro e w' ⟨rfl, ⟨nd, rfl⟩⟩) | ((with_reducible refine gate_callee (f := 32) rfl ?_); refine goesL_ (some 49) rfl rfl Try.func32 (by kernel_rfl) rfl #[.slice A0 l0.length c0, .int .i64 a1, .slice A0 l0.length c0, .int .i64 a1] rfl (by (try simp only [List.map_toArray, List.map_cons, List.map_nil]); first | done | rfl | (simp only [List.length_drop, List.length_take]; rfl)) ?_; (with_reducible refine (staff_Join.calls _ _ l0 a1 _ _ l0 a1 t1038 t1039 _ ?side1 ?side2 ?side3 ?side4 A12.out).mono ?_); (case side1 => repeat (first | exact (Kd.C_below HR0.out (hU HB.out)) | (with_reducible refine Kd.C_alloc ?_ _) | (with_reducible refine Kd.C_drewN ?_ _) | (with_reducible refine Kd.C_drew ?_))); (case side2 => exact HC0.out); (case side3 => repeat (first | exact (Kd.C_below HR0.out (hU HB.out)) | (with_reducible refine Kd.C_alloc ?_ _) | (with_reducible refine Kd.C_drewN ?_ _) | (with_reducible refine Kd.C_drew ?_))); (case side4 => exact HC0.out); rintro e w37 ⟨v1040, rfl, ho0, hb⟩; refine ⟨_, rfl, ?_⟩; have n0_ := Aside0.mk (Kd.R_elder' (Kd.rU HO1035.out) (Kd.R_base ho0) hb); have n1_ := Aside0.mk (Kd.R_lower (Kd.R_new' ho0 (Kd.R_lt (Kd.rU HO1035.out))) (below_size (hU HB.out))); have n2_ := Aside0.mk (below_step (hU HB.out) hb); clear HO1035; clear HB; have HO1035 := n0_; have HO1041 := n1_; have HB := n2_; clear n0_ n1_ n2_; (try clear hb); (try clear hb2); (try clear hk); (try clear hi); (try clear ho0)) | ((with_reducible refine gate_callee (f := 51) rfl ?_); refine goesL_ (some 56) rfl rfl Try.func51 (by kernel_rfl) rfl #[.int .i64 0, .int .i64 a1, .int .i64 2] rfl (by (try simp only [List.map_toArray, List.map_cons, List.map_nil]); first | done | rfl | (simp only [List.length_drop, List.length_take]; rfl)) ?_; (with_reducible refine (dancestudiolaw26_twice.calls 0 a1 2 t1042 t1043 t1044 _ A13.out).mono ?_); rintro e w38 ⟨rfl, hb⟩; refine ⟨_, rfl, ?_⟩; have n0_ := Aside0.mk (Kd.R_below (Kd.rU HO1035.out) hb); have n1_ := Aside0.mk (Kd.R_below (Kd.rU HO1041.out) hb); have n2_ := Aside0.mk (below_step (hU HB.out) hb); clear HO1035; clear HO1041; clear HB; have HO1035 := n0_; have HO1041 := n1_; have HB := n2_; clear n0_ n1_ n2_; (try clear hb); (try clear hb2); (try clear hk); (try clear hi)) | ((with_reducible refine gate_dst (N := 57) rfl ?_); refine Kd.R_lit k61 _ 61 ?hg (N := 57) ?hd (xs := ([(⟨(⟨t1042, t1043⟩ : S45), t1044⟩ : S61)] : List (S61))) (inner := [.int .i64 t1042, .int .i64 t1043, .int .i64 t1044]) (ok := fun _ => True) (okp := fun _ => True) ?hr ?hp (fun _ hk => hk) trivial (Below.refl _ _) (Nat.le_refl _) (by simp) ?_; (case hd => rfl); (case hg => rfl); (case hr => first | (go_simp; done) | (go_simp; rfl)); (case hp => exact (Reps.c3 (show Kd.M k61 _ _ _ (⟨(⟨t1042, t1043⟩ : S45), t1044⟩ : S61) [.int .i64 t1042, .int .i64 t1043, .int .i64 t1044] from (k61_mkM _ _ _ (⟨(⟨t1042, t1043⟩ : S45), t1044⟩ : S61) )) (Reps.none _ _))); intro v1046 w39 ho40 hb hg_ hnew_; clear hg_ hnew_; (first | rw [← Ny1045.out] at ho40 | (simp only [Int.reduceToNat] at ho40; rw [← Ny1045.out] at ho40)); have n0_ := Aside0.mk (Kd.R_below (Kd.rU HO1035.out) hb); have n1_ := Aside0.mk (Kd.R_below (Kd.rU HO1041.out) hb); have n2_ := Aside0.mk (Kd.R_lower ho40 (below_size (hU HB.out))); have n3_ := Aside0.mk (below_step (hU HB.out) hb); clear HO1035; clear HO1041; clear HB; have HO1035 := n0_; have HO1041 := n1_; have HO1047 := n2_; have HB := n3_; clear n0_ n1_ n2_ n3_; clear hb ho40; obtain ⟨Ao41, co41, eo41⟩ := Kd.R_slice HO1047.out; subst eo41) | ((with_reducible refine gate_callee (f := 42) rfl ?_); refine goesL_ (some 58) rfl rfl Try.func42 (by kernel_rfl) rfl #[.slice A0 l0.length c0, .int .i64 a1, .slice Ao41 y1045.length co41] rfl (by (try simp only [List.map_toArray, List.map_cons, List.map_nil]); first | done | rfl | (simp only [List.length_drop, List.length_take]; rfl)) ?_; (with_reducible refine (repeats_Perform.calls _ _ l0 a1 _ _ y1045 t1048 t1049 _ ?side1 ?side2 ?side3 ?side4 A14.out).mono ?_); (case side1 => repeat (first | exact (Kd.C_below HR0.out HB.out) | (with_reducible refine Kd.C_alloc ?_ _) | (with_reducible refine Kd.C_drewN ?_ _) | (with_reducible refine Kd.C_drew ?_))); (case side2 => exact HC0.out); (case side3 => repeat (first | exact (Kd.R_reads' HO1047.out).2.2 | (with_reducible refine Kd.C_alloc ?_ _) | (with_reducible refine Kd.C_drewN ?_ _) | (with_reducible refine Kd.C_drew ?_))); (case side4 => exact (Kd.R_reads' HO1047.out).2.1); rintro e w42 ⟨v1050, rfl, ho0, hb⟩; refine ⟨_, rfl, ?_⟩; have n0_ := Aside0.mk (Kd.R_elder' (Kd.rU HO1035.out) (Kd.R_base ho0) hb); have n1_ := Aside0.mk (Kd.R_elder' (Kd.rU HO1041.out) (Kd.R_base ho0) hb); have n2_ := Aside0.mk (Kd.R_below (Kd.rU HO1047.out) hb); have n3_ := Aside0.mk (Kd.R_lower (Kd.R_new' (Kd.R_new' ho0 (Kd.R_lt (Kd.rU HO1035.out))) (Kd.R_lt (Kd.rU HO1041.out))) (below_size (hU HB.out))); have n4_ := Aside0.mk (below_step (hU HB.out) hb); clear HO1035; clear HO1041; clear HO1047; clear HB; have HO1035 := n0_; have HO1041 := n1_; have HO1047 := n2_; have HO1051 := n3_; have HB := n4_; clear n0_ n1_ n2_ n3_ n4_; (try clear hb); (try clear hb2); (try clear hk); (try clear hi); (try clear ho0)) | (go_at_call 37; (with_reducible refine (dancestudiolaw26_awake.calls k  t1054 _ A33.out).mono ?_); rintro e w43 ⟨rfl, hb⟩; have n0_ := Aside0.mk (Kd.R_below (Kd.rU HO1035.out) hb); have n1_ := Aside0.mk (Kd.R_below (Kd.rU HO1041.out) hb); have n2_ := Aside0.mk (Kd.R_below (Kd.rU HO1047.out) hb); have n3_ := Aside0.mk (Kd.R_below (Kd.rU HO1051.out) hb); have n4_ := Aside0.mk (below_step (hU HB.out) hb); clear HO1035; clear HO1041; clear HO1047; clear HO1051; clear HB; have HO1035 := n0_; have HO1041 := n1_; have HO1047 := n2_; have HO1051 := n3_; have HB := n4_; clear n0_ n1_ n2_ n3_ n4_; (try clear hb); (try clear hb2); (try clear hk); (try clear hi)))
       go_ret
       exact ⟨by first | rfl | (simp [errW_none, errW_some] <;> rfl) | (simp [*, errW_none, errW_some] <;> rfl), hU HB.out⟩
    ·replace c11 := Bool.eq_false_iff.mpr c11
     subst c11
     have H1 : (none) = some r := by rw [if_neg (show ¬ (false = true) by decide)] at H; exact H
     clear H
     have H := H1
     clear H1
     exact absurd H (by simp)
   ·rw [if_neg c9] at H
    exact absurd H (by simp)
  ·rw [if_neg c8] at H
   have c8b0 : (t1036 == 0) = false := beq_eq_false_iff_ne.mpr c8
   have c8b1 : (t1036 != 0) = true := bne_iff_ne.mpr c8
   by_cases c44 : (t1032.length : Int) = 0
   ·rw [if_pos c44] at H
    have c44b0 : ((t1032.length : Int) == 0) = true := beq_iff_eq.mpr c44
    have c44b1 : ((t1032.length : Int) != 0) = false := bne_eq_false_iff_eq.mpr c44
    clear c44
    by_cases c45 : t1033 = t1036
    ·rw [if_pos c45] at H
     have c45b0 : (t1033 == t1036) = true := beq_iff_eq.mpr c45
     have c45b1 : (t1033 != t1036) = false := bne_eq_false_iff_eq.mpr c45
     clear c45
     replace H := Option.bind_eq_some_iff.mp H
     obtain ⟨t1055, A460, H⟩ := H
     replace H : (some t1055) = some r := H
     have A46 := Aside0.mk A460
     clear A460
     obtain rfl := Option.some.inj H
     go_enter Try.func18, Try.ntmps18
     go_wp2_with (first | ((with_reducible refine gate_callee (f := 42) rfl ?_); refine goesL_ (some 17) rfl rfl Try.func42 (by kernel_rfl) rfl #[.slice A0 l0.length c0, .int .i64 a1, .slice none 0 0] rfl (by (try simp only [List.map_toArray, List.map_cons, List.map_nil]); first | done | rfl | (simp only [List.length_drop, List.length_take]; rfl)) ?_; (refine (repeats_Perform.calls _ _ l0 a1 _ _ ([] : List (S61)) t1032 t1033 _ ?side1 ?side2 ?side3 ?side4 A6.out).mono ?_); (case side1 => repeat (first | exact HR0.out | (with_reducible refine Kd.C_alloc ?_ _) | (with_reducible refine Kd.C_drewN ?_ _) | (with_reducible refine Kd.C_drew ?_))); (case side2 => exact HC0.out); (case side3 => exact Kd.C_nil _ _); (case side4 => exact Nat.le_refl _); rintro e w47 ⟨v1034, rfl, ho0, hb⟩; refine ⟨_, rfl, ?_⟩; have n0_ := Aside0.mk (Kd.R_lower ho0 (below_size (hU HB.out))); have n1_ := Aside0.mk (below_step (hU HB.out) hb); clear HB; have HO1035 := n0_; have HB := n1_; clear n0_ n1_; (try clear hb); (try clear hb2); (try clear hk); (try clear hi); (try clear ho0)) | ((with_reducible refine gate_callee (f := 20) rfl ?_); refine goesL_ (some 22) rfl rfl Try.func20 (by kernel_rfl) rfl #[.slice A0 l0.length c0, .int .i64 a1] rfl (by (try simp only [List.map_toArray, List.map_cons, List.map_nil]); first | done | rfl | (simp only [List.length_drop, List.length_take]; rfl)) ?_; (with_reducible refine (staff_Check.calls _ _ l0 a1 t1036 _ ?side1 ?side2 A7.out).mono ?_); (case side1 => repeat (first | exact (Kd.C_below HR0.out HB.out) | (with_reducible refine Kd.C_alloc ?_ _) | (with_reducible refine Kd.C_drewN ?_ _) | (with_reducible refine Kd.C_drew ?_))); (case side2 => exact HC0.out); rintro e w48 ⟨rfl, hb⟩; refine ⟨_, rfl, ?_⟩; have n0_ := Aside0.mk (Kd.R_below (Kd.rU HO1035.out) hb); have n1_ := Aside0.mk (below_step (hU HB.out) hb); clear HO1035; clear HB; have HO1035 := n0_; have HB := n1_; clear n0_ n1_; (try clear hb); (try clear hb2); (try clear hk); (try clear hi); obtain ⟨Ao49, co49, eo49⟩ := Kd.R_slice HO1035.out; subst eo49) | (go_at_call 37; (with_reducible refine (dancestudiolaw26_awake.calls k  t1055 _ A46.out).mono ?_); rintro e w50 ⟨rfl, hb⟩; have n0_ := Aside0.mk (Kd.R_below (Kd.rU HO1035.out) hb); have n1_ := Aside0.mk (below_step (hU HB.out) hb); clear HO1035; clear HB; have HO1035 := n0_; have HB := n1_; clear n0_ n1_; (try clear hb); (try clear hb2); (try clear hk); (try clear hi)))
     go_ret
     exact ⟨by first | rfl | (simp [errW_none, errW_some] <;> rfl) | (simp [*, errW_none, errW_some] <;> rfl), hU HB.out⟩
    ·rw [if_neg c45] at H
     exact absurd H (by simp)
   ·rw [if_neg c44] at H
    exact absurd H (by simp)

end Go.Proofs.Ytdilndbanhianaa.P

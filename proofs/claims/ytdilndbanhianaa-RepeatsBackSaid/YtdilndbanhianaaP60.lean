-- Written by a program of this session (myprint.py over the kit's print): the Go functions of the seat as Lean functions, and what their calls do.
import Derived.Test.YtdilndbanhianaaVMA
import Derived.Test.YtdilndbanhianaaP35
import Derived.Test.YtdilndbanhianaaP36
import Derived.Test.YtdilndbanhianaaP40
import Derived.Test.YtdilndbanhianaaP42
import Derived.Test.YtdilndbanhianaaRpPerform
import Derived.Test.YtdilndbanhianaaVMC
namespace Go.Proofs.Ytdilndbanhianaa.P
open Go.RowKit Go.Proofs.YtdilndbanhianaaW.PrintWords Go.Proofs.YtdilndbanhianaaW.PrintLast Go.Proofs.YtdilndbanhianaaW.PrintMore
attribute [local go_sem] max2_int min2_int max_two min_two max_three min_three max_four min_four   -- for this text's walks alone
set_option linter.unusedVariables false
set_option linter.unusedSimpArgs false

/-! ### dancestudiolaw26_RepeatsBack: function 17 -/
def dancestudiolaw26_RepeatsBack.f (k : Nat) (l0 : List (S29)) (a1 : Int) (a2 : Int) : Option (Bool) := if (l0.length : Int) > 60 then ((dancestudiolaw26_awake.f k).bind fun t1009 => (some t1009)) else (if a1 > 300 then ((dancestudiolaw26_awake.f k).bind fun t1010 => (some t1010)) else ((repeats_Find.f k l0 a1 a2).bind fun bt1011 => (if bt1011.2.2.2 = 0 then ((repeats_Perform.f bt1011.1 bt1011.2.1 bt1011.2.2.1).bind fun bt1019 => ((repeats_Length.f bt1011.1 bt1011.2.1 bt1011.2.2.1).bind fun bt1023 => (if bt1019.2 = 0 then (if bt1023.2 = 0 then (if bt1011.2.1 ≤ a1 then (if (bt1011.1.length : Int) ≤ (l0.length : Int) then (if bt1023.1 = a1 then ((dancestudioref26_Same.f k bt1019.1 l0).bind fun t1025 => (if t1025 = true then ((dancestudiolaw26_awake.f k).bind fun t1026 => (some t1026)) else (none))) else (none)) else (none)) else (none)) else (none)) else (none)))) else (if (bt1011.1.length : Int) = 0 then (if bt1011.2.1 = 0 then (if (bt1011.2.2.1.length : Int) = 0 then ((staff_Check.f l0 a1).bind fun t1027 => (if bt1011.2.2.2 = t1027 then ((dancestudiolaw26_awake.f k).bind fun t1028 => (some t1028)) else (if bt1011.2.2.2 = 1 then (if a2 < 1 then ((dancestudiolaw26_awake.f k).bind fun t1029 => (some t1029)) else (if a2 > a1 then ((dancestudiolaw26_awake.f k).bind fun t1030 => (some t1030)) else (none))) else (none)))) else (none)) else (none)) else (none)))))
theorem dancestudiolaw26_RepeatsBack.mono : ∀ a0 a1 a2 k, LeO (dancestudiolaw26_RepeatsBack.f k a0 a1 a2) (dancestudiolaw26_RepeatsBack.f (k + 1) a0 a1 a2) := by
 intro a0 a1 a2 k
 unfold dancestudiolaw26_RepeatsBack.f
 repeat' first
   | (with_reducible exact dancestudiolaw26_awake.mono _)
   | (with_reducible exact dancestudioref26_Same.mono _ _ _)
   | (with_reducible exact repeats_Find.mono _ _ _ _)
   | (with_reducible exact LeO.refl _)
   | (with_reducible exact LeO.none _)
   | (with_reducible refine LeO.ite ?_ ?_)
   | (with_reducible refine LeO.bind ?_ (fun _ => ?_))
   | exact dancestudiolaw26_awake.mono _
   | exact dancestudioref26_Same.mono _ _ _
   | exact repeats_Find.mono _ _ _ _
   | exact LeO.none _
   | refine LeO.ite ?_ ?_
   | refine LeO.bind ?_ (fun _ => ?_)
set_option maxHeartbeats 8000000 in
set_option maxRecDepth 100000 in
theorem dancestudiolaw26_RepeatsBack.calls (k : Nat) (A0 : Option Addr) (c0 : Nat) (l0 : List (S29)) (a1 : Int) (a2 : Int) (r : Bool) (w : World) (hr0 : Kd.C k29 w A0 l0.length l0) (hc0 : l0.length ≤ c0) (h : dancestudiolaw26_RepeatsBack.f k l0 a1 a2 = some r) :
  Calls Try.prog 17 #[.slice A0 l0.length c0, .int .i64 a1, .int .i64 a2] w fun e w' => e = .returned (.bool r) ∧ Below w.heap.size w w' := by
 have HR0 := Aside0.mk hr0
 have HC0 := Aside0.mk hc0
 clear hr0 hc0
 have HB := Aside0.mk (Below.refl w.heap.size w)
 have H : (if (l0.length : Int) > 60 then ((dancestudiolaw26_awake.f k).bind fun t1009 => (some t1009)) else (if a1 > 300 then ((dancestudiolaw26_awake.f k).bind fun t1010 => (some t1010)) else ((repeats_Find.f k l0 a1 a2).bind fun bt1011 => (if bt1011.2.2.2 = 0 then ((repeats_Perform.f bt1011.1 bt1011.2.1 bt1011.2.2.1).bind fun bt1019 => ((repeats_Length.f bt1011.1 bt1011.2.1 bt1011.2.2.1).bind fun bt1023 => (if bt1019.2 = 0 then (if bt1023.2 = 0 then (if bt1011.2.1 ≤ a1 then (if (bt1011.1.length : Int) ≤ (l0.length : Int) then (if bt1023.1 = a1 then ((dancestudioref26_Same.f k bt1019.1 l0).bind fun t1025 => (if t1025 = true then ((dancestudiolaw26_awake.f k).bind fun t1026 => (some t1026)) else (none))) else (none)) else (none)) else (none)) else (none)) else (none)))) else (if (bt1011.1.length : Int) = 0 then (if bt1011.2.1 = 0 then (if (bt1011.2.2.1.length : Int) = 0 then ((staff_Check.f l0 a1).bind fun t1027 => (if bt1011.2.2.2 = t1027 then ((dancestudiolaw26_awake.f k).bind fun t1028 => (some t1028)) else (if bt1011.2.2.2 = 1 then (if a2 < 1 then ((dancestudiolaw26_awake.f k).bind fun t1029 => (some t1029)) else (if a2 > a1 then ((dancestudiolaw26_awake.f k).bind fun t1030 => (some t1030)) else (none))) else (none)))) else (none)) else (none)) else (none)))))) = some r := h
 clear h
 by_cases c4 : (l0.length : Int) > 60
 ·rw [if_pos c4] at H
  have c4b0 : decide (60 < (l0.length : Int)) = true := decide_eq_true c4
  have c4b1 : decide (60 < l0.length) = true := decide_eq_true (by omega)
  clear c4
  replace H := Option.bind_eq_some_iff.mp H
  obtain ⟨t1009, A50, H⟩ := H
  replace H : (some t1009) = some r := H
  have A5 := Aside0.mk A50
  clear A50
  obtain rfl := Option.some.inj H
  go_enter Try.func17, Try.ntmps17
  go_wp2_with (first | ((with_reducible refine gate_callee (f := 37) rfl ?_); refine goesL_ (some 21) rfl rfl Try.func37 (by kernel_rfl) rfl #[] rfl (by (try simp only [List.map_toArray, List.map_cons, List.map_nil]); first | done | rfl | (simp only [List.length_drop, List.length_take]; rfl)) ?_; (with_reducible refine (dancestudiolaw26_awake.calls k  t1009 _ A5.out).mono ?_); rintro e w6 ⟨rfl, hb⟩; refine ⟨_, rfl, ?_⟩; have n0_ := Aside0.mk (below_step (hU HB.out) hb); clear HB; have HB := n0_; clear n0_; (try clear hb); (try clear hb2); (try clear hk); (try clear hi)))
  go_ret
  exact ⟨by first | rfl | (simp [errW_none, errW_some] <;> rfl) | (simp [*, errW_none, errW_some] <;> rfl), hU HB.out⟩
 ·rw [if_neg c4] at H
  have c4b0 : decide (60 < (l0.length : Int)) = false := decide_eq_false c4
  have c4b1 : decide (60 < l0.length) = false := decide_eq_false (by omega)
  clear c4
  by_cases c7 : a1 > 300
  ·rw [if_pos c7] at H
   have c7b0 : decide (300 < a1) = true := decide_eq_true c7
   clear c7
   replace H := Option.bind_eq_some_iff.mp H
   obtain ⟨t1010, A80, H⟩ := H
   replace H : (some t1010) = some r := H
   have A8 := Aside0.mk A80
   clear A80
   obtain rfl := Option.some.inj H
   go_enter Try.func17, Try.ntmps17
   go_wp2_with (first | ((with_reducible refine gate_callee (f := 37) rfl ?_); refine goesL_ (some 21) rfl rfl Try.func37 (by kernel_rfl) rfl #[] rfl (by (try simp only [List.map_toArray, List.map_cons, List.map_nil]); first | done | rfl | (simp only [List.length_drop, List.length_take]; rfl)) ?_; (with_reducible refine (dancestudiolaw26_awake.calls k  t1010 _ A8.out).mono ?_); rintro e w9 ⟨rfl, hb⟩; refine ⟨_, rfl, ?_⟩; have n0_ := Aside0.mk (below_step (hU HB.out) hb); clear HB; have HB := n0_; clear n0_; (try clear hb); (try clear hb2); (try clear hk); (try clear hi)))
   go_ret
   exact ⟨by first | rfl | (simp [errW_none, errW_some] <;> rfl) | (simp [*, errW_none, errW_some] <;> rfl), hU HB.out⟩
  ·rw [if_neg c7] at H
   have c7b0 : decide (300 < a1) = false := decide_eq_false c7
   clear c7
   replace H := Option.bind_eq_some_iff.mp H
   obtain ⟨⟨t1011, t1012, t1013, t1014⟩, A100, H⟩ := H
   try dsimp only at H
   have A10 := Aside0.mk A100
   clear A100
   by_cases c11 : t1014 = 0
   ·rw [if_pos c11] at H
    have c11b0 : (t1014 == 0) = true := beq_iff_eq.mpr c11
    have c11b1 : (t1014 != 0) = false := bne_eq_false_iff_eq.mpr c11
    clear c11
    replace H := Option.bind_eq_some_iff.mp H
    obtain ⟨⟨t1019, t1020⟩, A120, H⟩ := H
    try dsimp only at H
    have A12 := Aside0.mk A120
    clear A120
    replace H := Option.bind_eq_some_iff.mp H
    obtain ⟨⟨t1023, t1024⟩, A130, H⟩ := H
    try dsimp only at H
    have A13 := Aside0.mk A130
    clear A130
    by_cases c14 : t1020 = 0
    ·rw [if_pos c14] at H
     have c14b0 : (t1020 == 0) = true := beq_iff_eq.mpr c14
     have c14b1 : (t1020 != 0) = false := bne_eq_false_iff_eq.mpr c14
     clear c14
     by_cases c15 : t1024 = 0
     ·rw [if_pos c15] at H
      have c15b0 : (t1024 == 0) = true := beq_iff_eq.mpr c15
      have c15b1 : (t1024 != 0) = false := bne_eq_false_iff_eq.mpr c15
      clear c15
      by_cases c16 : t1012 ≤ a1
      ·rw [if_pos c16] at H
       have c16b0 : decide (t1012 ≤ a1) = true := decide_eq_true c16
       clear c16
       by_cases c17 : (t1011.length : Int) ≤ (l0.length : Int)
       ·rw [if_pos c17] at H
        have c17b0 : decide ((t1011.length : Int) ≤ (l0.length : Int)) = true := decide_eq_true c17
        have c17b1 : decide (t1011.length ≤ l0.length) = true := decide_eq_true (Int.ofNat_le.mp c17)
        clear c17
        by_cases c18 : t1023 = a1
        ·rw [if_pos c18] at H
         have c18b0 : (t1023 == a1) = true := beq_iff_eq.mpr c18
         have c18b1 : (t1023 != a1) = false := bne_eq_false_iff_eq.mpr c18
         clear c18
         replace H := Option.bind_eq_some_iff.mp H
         obtain ⟨t1025, A190, H⟩ := H
         replace H : (if t1025 = true then ((dancestudiolaw26_awake.f k).bind fun t1026 => (some t1026)) else (none)) = some r := H
         have A19 := Aside0.mk A190
         clear A190
         by_cases c20 : t1025 = true
         ·subst c20
          have H1 : ((dancestudiolaw26_awake.f k).bind fun t1026 => (some t1026)) = some r := by rw [if_pos rfl] at H; exact H
          clear H
          have H := H1
          clear H1
          replace H := Option.bind_eq_some_iff.mp H
          obtain ⟨t1026, A210, H⟩ := H
          replace H : (some t1026) = some r := H
          have A21 := Aside0.mk A210
          clear A210
          obtain rfl := Option.some.inj H
          go_enter Try.func17, Try.ntmps17
          go_wp2_with (first | ((with_reducible refine gate_callee (f := 48) rfl ?_); refine goesL_ (some 26) rfl rfl Try.func48 (by kernel_rfl) rfl #[.slice A0 l0.length c0, .int .i64 a1, .int .i64 a2] rfl (by (try simp only [List.map_toArray, List.map_cons, List.map_nil]); first | done | rfl | (simp only [List.length_drop, List.length_take]; rfl)) ?_; (with_reducible refine (repeats_Find.calls k _ _ l0 a1 a2 t1011 t1012 t1013 t1014 _ ?side1 ?side2 A10.out).mono ?_); (case side1 => repeat (first | exact HR0.out | (with_reducible refine Kd.C_alloc ?_ _) | (with_reducible refine Kd.C_drewN ?_ _) | (with_reducible refine Kd.C_drew ?_))); (case side2 => exact HC0.out); rintro e w22 ⟨v1015, v1017, rfl, ho0, ho1, hb⟩; refine ⟨_, rfl, ?_⟩; have n0_ := Aside0.mk (Kd.R_lower ho0 (below_size (hU HB.out))); have n1_ := Aside0.mk (Kd.R_lower ho1 (below_size (hU HB.out))); have n2_ := Aside0.mk (below_step (hU HB.out) hb); clear HB; have HO1016 := n0_; have HO1018 := n1_; have HB := n2_; clear n0_ n1_ n2_; (try clear hb); (try clear hb2); (try clear hk); (try clear hi); (try clear ho0); (try clear ho1); obtain ⟨Ao23, co23, eo23⟩ := Kd.R_slice HO1016.out; subst eo23; obtain ⟨Ao24, co24, eo24⟩ := Kd.R_slice HO1018.out; subst eo24) | ((with_reducible refine gate_callee (f := 42) rfl ?_); refine goesL_ (some 72) rfl rfl Try.func42 (by kernel_rfl) rfl #[.slice Ao23 t1011.length co23, .int .i64 t1012, .slice Ao24 t1013.length co24] rfl (by (try simp only [List.map_toArray, List.map_cons, List.map_nil]); first | done | rfl | (simp only [List.length_drop, List.length_take]; rfl)) ?_; (with_reducible refine (repeats_Perform.calls _ _ t1011 t1012 _ _ t1013 t1019 t1020 _ ?side1 ?side2 ?side3 ?side4 A12.out).mono ?_); (case side1 => repeat (first | exact (Kd.R_reads' HO1016.out).2.2 | (with_reducible refine Kd.C_alloc ?_ _) | (with_reducible refine Kd.C_drewN ?_ _) | (with_reducible refine Kd.C_drew ?_))); (case side2 => exact (Kd.R_reads' HO1016.out).2.1); (case side3 => repeat (first | exact (Kd.R_reads' HO1018.out).2.2 | (with_reducible refine Kd.C_alloc ?_ _) | (with_reducible refine Kd.C_drewN ?_ _) | (with_reducible refine Kd.C_drew ?_))); (case side4 => exact (Kd.R_reads' HO1018.out).2.1); rintro e w25 ⟨v1021, rfl, ho0, hb⟩; refine ⟨_, rfl, ?_⟩; have n0_ := Aside0.mk (Kd.R_elder' (Kd.rU HO1016.out) (Kd.R_base ho0) hb); have n1_ := Aside0.mk (Kd.R_below (Kd.rU HO1018.out) hb); have n2_ := Aside0.mk (Kd.R_lower (Kd.R_new' ho0 (Kd.R_lt (Kd.rU HO1016.out))) (below_size (hU HB.out))); have n3_ := Aside0.mk (below_step (hU HB.out) hb); clear HO1016; clear HO1018; clear HB; have HO1016 := n0_; have HO1018 := n1_; have HO1022 := n2_; have HB := n3_; clear n0_ n1_ n2_ n3_; (try clear hb); (try clear hb2); (try clear hk); (try clear hi); (try clear ho0)) | ((with_reducible refine gate_callee (f := 38) rfl ?_); refine goesL_ (some 79) rfl rfl Try.func38 (by kernel_rfl) rfl #[.slice Ao23 t1011.length co23, .int .i64 t1012, .slice Ao24 t1013.length co24] rfl (by (try simp only [List.map_toArray, List.map_cons, List.map_nil]); first | done | rfl | (simp only [List.length_drop, List.length_take]; rfl)) ?_; (with_reducible refine (repeats_Length.calls _ _ t1011 t1012 _ _ t1013 t1023 t1024 _ ?side1 ?side2 ?side3 ?side4 A13.out).mono ?_); (case side1 => repeat (first | exact (Kd.R_reads' HO1016.out).2.2 | (with_reducible refine Kd.C_alloc ?_ _) | (with_reducible refine Kd.C_drewN ?_ _) | (with_reducible refine Kd.C_drew ?_))); (case side2 => exact (Kd.R_reads' HO1016.out).2.1); (case side3 => repeat (first | exact (Kd.R_reads' HO1018.out).2.2 | (with_reducible refine Kd.C_alloc ?_ _) | (with_reducible refine Kd.C_drewN ?_ _) | (with_reducible refine Kd.C_drew ?_))); (case side4 => exact (Kd.R_reads' HO1018.out).2.1); rintro e w26 ⟨rfl, hb⟩; refine ⟨_, rfl, ?_⟩; have n0_ := Aside0.mk (Kd.R_below (Kd.rU HO1016.out) hb); have n1_ := Aside0.mk (Kd.R_below (Kd.rU HO1018.out) hb); have n2_ := Aside0.mk (Kd.R_below (Kd.rU HO1022.out) hb); have n3_ := Aside0.mk (below_step (hU HB.out) hb); clear HO1016; clear HO1018; clear HO1022; clear HB; have HO1016 := n0_; have HO1018 := n1_; have HO1022 := n2_; have HB := n3_; clear n0_ n1_ n2_ n3_; (try clear hb); (try clear hb2); (try clear hk); (try clear hi); obtain ⟨Ao27, co27, eo27⟩ := Kd.R_slice HO1022.out; subst eo27) | (go_at_call 46; (with_reducible refine (dancestudioref26_Same.calls k _ _ t1019 _ _ l0 true _ ?side1 ?side2 ?side3 ?side4 A19.out).mono ?_); (case side1 => repeat (first | exact (Kd.R_reads' HO1022.out).2.2 | (with_reducible refine Kd.C_alloc ?_ _) | (with_reducible refine Kd.C_drewN ?_ _) | (with_reducible refine Kd.C_drew ?_))); (case side2 => exact (Kd.R_reads' HO1022.out).2.1); (case side3 => repeat (first | exact (Kd.C_below HR0.out HB.out) | (with_reducible refine Kd.C_alloc ?_ _) | (with_reducible refine Kd.C_drewN ?_ _) | (with_reducible refine Kd.C_drew ?_))); (case side4 => exact HC0.out); rintro e w' ⟨rfl, ⟨nd, rfl⟩⟩) | (go_at_call 37; (with_reducible refine (dancestudiolaw26_awake.calls k  t1026 _ A21.out).mono ?_); rintro e w28 ⟨rfl, hb⟩; have n0_ := Aside0.mk (Kd.R_below (Kd.rU HO1016.out) hb); have n1_ := Aside0.mk (Kd.R_below (Kd.rU HO1018.out) hb); have n2_ := Aside0.mk (Kd.R_below (Kd.rU HO1022.out) hb); have n3_ := Aside0.mk (below_step (hU HB.out) hb); clear HO1016; clear HO1018; clear HO1022; clear HB; have HO1016 := n0_; have HO1018 := n1_; have HO1022 := n2_; have HB := n3_; clear n0_ n1_ n2_ n3_; (try clear hb); (try clear hb2); (try clear hk); (try clear hi)))
          go_ret
          exact ⟨by first | rfl | (simp [errW_none, errW_some] <;> rfl) | (simp [*, errW_none, errW_some] <;> rfl), hU HB.out⟩
         ·replace c20 := Bool.eq_false_iff.mpr c20
          subst c20
          have H1 : (none) = some r := by rw [if_neg (show ¬ (false = true) by decide)] at H; exact H
          clear H
          have H := H1
          clear H1
          exact absurd H (by simp)
        ·rw [if_neg c18] at H
         exact absurd H (by simp)
       ·rw [if_neg c17] at H
        exact absurd H (by simp)
      ·rw [if_neg c16] at H
       exact absurd H (by simp)
     ·rw [if_neg c15] at H
      exact absurd H (by simp)
    ·rw [if_neg c14] at H
     exact absurd H (by simp)
   ·rw [if_neg c11] at H
    have c11b0 : (t1014 == 0) = false := beq_eq_false_iff_ne.mpr c11
    have c11b1 : (t1014 != 0) = true := bne_iff_ne.mpr c11
    by_cases c29 : (t1011.length : Int) = 0
    ·rw [if_pos c29] at H
     have c29b0 : ((t1011.length : Int) == 0) = true := beq_iff_eq.mpr c29
     have c29b1 : ((t1011.length : Int) != 0) = false := bne_eq_false_iff_eq.mpr c29
     clear c29
     by_cases c30 : t1012 = 0
     ·rw [if_pos c30] at H
      have c30b0 : (t1012 == 0) = true := beq_iff_eq.mpr c30
      have c30b1 : (t1012 != 0) = false := bne_eq_false_iff_eq.mpr c30
      clear c30
      by_cases c31 : (t1013.length : Int) = 0
      ·rw [if_pos c31] at H
       have c31b0 : ((t1013.length : Int) == 0) = true := beq_iff_eq.mpr c31
       have c31b1 : ((t1013.length : Int) != 0) = false := bne_eq_false_iff_eq.mpr c31
       clear c31
       replace H := Option.bind_eq_some_iff.mp H
       obtain ⟨t1027, A320, H⟩ := H
       try dsimp only at H
       have A32 := Aside0.mk A320
       clear A320
       by_cases c33 : t1014 = t1027
       ·rw [if_pos c33] at H
        have c33b0 : (t1014 == t1027) = true := beq_iff_eq.mpr c33
        have c33b1 : (t1014 != t1027) = false := bne_eq_false_iff_eq.mpr c33
        clear c33
        replace H := Option.bind_eq_some_iff.mp H
        obtain ⟨t1028, A340, H⟩ := H
        replace H : (some t1028) = some r := H
        have A34 := Aside0.mk A340
        clear A340
        obtain rfl := Option.some.inj H
        go_enter Try.func17, Try.ntmps17
        go_wp2_with (first | ((with_reducible refine gate_callee (f := 48) rfl ?_); refine goesL_ (some 26) rfl rfl Try.func48 (by kernel_rfl) rfl #[.slice A0 l0.length c0, .int .i64 a1, .int .i64 a2] rfl (by (try simp only [List.map_toArray, List.map_cons, List.map_nil]); first | done | rfl | (simp only [List.length_drop, List.length_take]; rfl)) ?_; (with_reducible refine (repeats_Find.calls k _ _ l0 a1 a2 t1011 t1012 t1013 t1014 _ ?side1 ?side2 A10.out).mono ?_); (case side1 => repeat (first | exact HR0.out | (with_reducible refine Kd.C_alloc ?_ _) | (with_reducible refine Kd.C_drewN ?_ _) | (with_reducible refine Kd.C_drew ?_))); (case side2 => exact HC0.out); rintro e w35 ⟨v1015, v1017, rfl, ho0, ho1, hb⟩; refine ⟨_, rfl, ?_⟩; have n0_ := Aside0.mk (Kd.R_lower ho0 (below_size (hU HB.out))); have n1_ := Aside0.mk (Kd.R_lower ho1 (below_size (hU HB.out))); have n2_ := Aside0.mk (below_step (hU HB.out) hb); clear HB; have HO1016 := n0_; have HO1018 := n1_; have HB := n2_; clear n0_ n1_ n2_; (try clear hb); (try clear hb2); (try clear hk); (try clear hi); (try clear ho0); (try clear ho1); obtain ⟨Ao36, co36, eo36⟩ := Kd.R_slice HO1016.out; subst eo36; obtain ⟨Ao37, co37, eo37⟩ := Kd.R_slice HO1018.out; subst eo37) | (go_at_call 20; (with_reducible refine (staff_Check.calls _ _ l0 a1 t1027 _ ?side1 ?side2 A32.out).mono ?_); (case side1 => repeat (first | exact (Kd.C_below HR0.out HB.out) | (with_reducible refine Kd.C_alloc ?_ _) | (with_reducible refine Kd.C_drewN ?_ _) | (with_reducible refine Kd.C_drew ?_))); (case side2 => exact HC0.out); rintro e w38 ⟨rfl, hb⟩; have n0_ := Aside0.mk (Kd.R_below (Kd.rU HO1016.out) hb); have n1_ := Aside0.mk (Kd.R_below (Kd.rU HO1018.out) hb); have n2_ := Aside0.mk (below_step (hU HB.out) hb); clear HO1016; clear HO1018; clear HB; have HO1016 := n0_; have HO1018 := n1_; have HB := n2_; clear n0_ n1_ n2_; (try clear hb); (try clear hb2); (try clear hk); (try clear hi)) | (go_at_call 37; (with_reducible refine (dancestudiolaw26_awake.calls k  t1028 _ A34.out).mono ?_); rintro e w39 ⟨rfl, hb⟩; have n0_ := Aside0.mk (Kd.R_below (Kd.rU HO1016.out) hb); have n1_ := Aside0.mk (Kd.R_below (Kd.rU HO1018.out) hb); have n2_ := Aside0.mk (below_step (hU HB.out) hb); clear HO1016; clear HO1018; clear HB; have HO1016 := n0_; have HO1018 := n1_; have HB := n2_; clear n0_ n1_ n2_; (try clear hb); (try clear hb2); (try clear hk); (try clear hi)))
        go_ret
        exact ⟨by first | rfl | (simp [errW_none, errW_some] <;> rfl) | (simp [*, errW_none, errW_some] <;> rfl), hU HB.out⟩
       ·rw [if_neg c33] at H
        have c33b0 : (t1014 == t1027) = false := beq_eq_false_iff_ne.mpr c33
        have c33b1 : (t1014 != t1027) = true := bne_iff_ne.mpr c33
        by_cases c40 : t1014 = 1
        ·rw [if_pos c40] at H
         have c40b0 : (t1014 == 1) = true := beq_iff_eq.mpr c40
         have c40b1 : (t1014 != 1) = false := bne_eq_false_iff_eq.mpr c40
         clear c40
         by_cases c41 : a2 < 1
         ·rw [if_pos c41] at H
          have c41b0 : decide (a2 < 1) = true := decide_eq_true c41
          clear c41
          replace H := Option.bind_eq_some_iff.mp H
          obtain ⟨t1029, A420, H⟩ := H
          replace H : (some t1029) = some r := H
          have A42 := Aside0.mk A420
          clear A420
          obtain rfl := Option.some.inj H
          go_enter Try.func17, Try.ntmps17
          go_wp2_with (first | ((with_reducible refine gate_callee (f := 48) rfl ?_); refine goesL_ (some 26) rfl rfl Try.func48 (by kernel_rfl) rfl #[.slice A0 l0.length c0, .int .i64 a1, .int .i64 a2] rfl (by (try simp only [List.map_toArray, List.map_cons, List.map_nil]); first | done | rfl | (simp only [List.length_drop, List.length_take]; rfl)) ?_; (with_reducible refine (repeats_Find.calls k _ _ l0 a1 a2 t1011 t1012 t1013 t1014 _ ?side1 ?side2 A10.out).mono ?_); (case side1 => repeat (first | exact HR0.out | (with_reducible refine Kd.C_alloc ?_ _) | (with_reducible refine Kd.C_drewN ?_ _) | (with_reducible refine Kd.C_drew ?_))); (case side2 => exact HC0.out); rintro e w43 ⟨v1015, v1017, rfl, ho0, ho1, hb⟩; refine ⟨_, rfl, ?_⟩; have n0_ := Aside0.mk (Kd.R_lower ho0 (below_size (hU HB.out))); have n1_ := Aside0.mk (Kd.R_lower ho1 (below_size (hU HB.out))); have n2_ := Aside0.mk (below_step (hU HB.out) hb); clear HB; have HO1016 := n0_; have HO1018 := n1_; have HB := n2_; clear n0_ n1_ n2_; (try clear hb); (try clear hb2); (try clear hk); (try clear hi); (try clear ho0); (try clear ho1); obtain ⟨Ao44, co44, eo44⟩ := Kd.R_slice HO1016.out; subst eo44; obtain ⟨Ao45, co45, eo45⟩ := Kd.R_slice HO1018.out; subst eo45) | (go_at_call 20; (with_reducible refine (staff_Check.calls _ _ l0 a1 t1027 _ ?side1 ?side2 A32.out).mono ?_); (case side1 => repeat (first | exact (Kd.C_below HR0.out HB.out) | (with_reducible refine Kd.C_alloc ?_ _) | (with_reducible refine Kd.C_drewN ?_ _) | (with_reducible refine Kd.C_drew ?_))); (case side2 => exact HC0.out); rintro e w46 ⟨rfl, hb⟩; have n0_ := Aside0.mk (Kd.R_below (Kd.rU HO1016.out) hb); have n1_ := Aside0.mk (Kd.R_below (Kd.rU HO1018.out) hb); have n2_ := Aside0.mk (below_step (hU HB.out) hb); clear HO1016; clear HO1018; clear HB; have HO1016 := n0_; have HO1018 := n1_; have HB := n2_; clear n0_ n1_ n2_; (try clear hb); (try clear hb2); (try clear hk); (try clear hi)) | (go_at_call 37; (with_reducible refine (dancestudiolaw26_awake.calls k  t1029 _ A42.out).mono ?_); rintro e w47 ⟨rfl, hb⟩; have n0_ := Aside0.mk (Kd.R_below (Kd.rU HO1016.out) hb); have n1_ := Aside0.mk (Kd.R_below (Kd.rU HO1018.out) hb); have n2_ := Aside0.mk (below_step (hU HB.out) hb); clear HO1016; clear HO1018; clear HB; have HO1016 := n0_; have HO1018 := n1_; have HB := n2_; clear n0_ n1_ n2_; (try clear hb); (try clear hb2); (try clear hk); (try clear hi)))
          go_ret
          exact ⟨by first | rfl | (simp [errW_none, errW_some] <;> rfl) | (simp [*, errW_none, errW_some] <;> rfl), hU HB.out⟩
         ·rw [if_neg c41] at H
          have c41b0 : decide (a2 < 1) = false := decide_eq_false c41
          clear c41
          by_cases c48 : a2 > a1
          ·rw [if_pos c48] at H
           have c48b0 : decide (a1 < a2) = true := decide_eq_true c48
           clear c48
           replace H := Option.bind_eq_some_iff.mp H
           obtain ⟨t1030, A490, H⟩ := H
           replace H : (some t1030) = some r := H
           have A49 := Aside0.mk A490
           clear A490
           obtain rfl := Option.some.inj H
           go_enter Try.func17, Try.ntmps17
           go_wp2_with (first | ((with_reducible refine gate_callee (f := 48) rfl ?_); refine goesL_ (some 26) rfl rfl Try.func48 (by kernel_rfl) rfl #[.slice A0 l0.length c0, .int .i64 a1, .int .i64 a2] rfl (by (try simp only [List.map_toArray, List.map_cons, List.map_nil]); first | done | rfl | (simp only [List.length_drop, List.length_take]; rfl)) ?_; (with_reducible refine (repeats_Find.calls k _ _ l0 a1 a2 t1011 t1012 t1013 t1014 _ ?side1 ?side2 A10.out).mono ?_); (case side1 => repeat (first | exact HR0.out | (with_reducible refine Kd.C_alloc ?_ _) | (with_reducible refine Kd.C_drewN ?_ _) | (with_reducible refine Kd.C_drew ?_))); (case side2 => exact HC0.out); rintro e w50 ⟨v1015, v1017, rfl, ho0, ho1, hb⟩; refine ⟨_, rfl, ?_⟩; have n0_ := Aside0.mk (Kd.R_lower ho0 (below_size (hU HB.out))); have n1_ := Aside0.mk (Kd.R_lower ho1 (below_size (hU HB.out))); have n2_ := Aside0.mk (below_step (hU HB.out) hb); clear HB; have HO1016 := n0_; have HO1018 := n1_; have HB := n2_; clear n0_ n1_ n2_; (try clear hb); (try clear hb2); (try clear hk); (try clear hi); (try clear ho0); (try clear ho1); obtain ⟨Ao51, co51, eo51⟩ := Kd.R_slice HO1016.out; subst eo51; obtain ⟨Ao52, co52, eo52⟩ := Kd.R_slice HO1018.out; subst eo52) | (go_at_call 20; (with_reducible refine (staff_Check.calls _ _ l0 a1 t1027 _ ?side1 ?side2 A32.out).mono ?_); (case side1 => repeat (first | exact (Kd.C_below HR0.out HB.out) | (with_reducible refine Kd.C_alloc ?_ _) | (with_reducible refine Kd.C_drewN ?_ _) | (with_reducible refine Kd.C_drew ?_))); (case side2 => exact HC0.out); rintro e w53 ⟨rfl, hb⟩; have n0_ := Aside0.mk (Kd.R_below (Kd.rU HO1016.out) hb); have n1_ := Aside0.mk (Kd.R_below (Kd.rU HO1018.out) hb); have n2_ := Aside0.mk (below_step (hU HB.out) hb); clear HO1016; clear HO1018; clear HB; have HO1016 := n0_; have HO1018 := n1_; have HB := n2_; clear n0_ n1_ n2_; (try clear hb); (try clear hb2); (try clear hk); (try clear hi)) | (go_at_call 37; (with_reducible refine (dancestudiolaw26_awake.calls k  t1030 _ A49.out).mono ?_); rintro e w54 ⟨rfl, hb⟩; have n0_ := Aside0.mk (Kd.R_below (Kd.rU HO1016.out) hb); have n1_ := Aside0.mk (Kd.R_below (Kd.rU HO1018.out) hb); have n2_ := Aside0.mk (below_step (hU HB.out) hb); clear HO1016; clear HO1018; clear HB; have HO1016 := n0_; have HO1018 := n1_; have HB := n2_; clear n0_ n1_ n2_; (try clear hb); (try clear hb2); (try clear hk); (try clear hi)))
           go_ret
           exact ⟨by first | rfl | (simp [errW_none, errW_some] <;> rfl) | (simp [*, errW_none, errW_some] <;> rfl), hU HB.out⟩
          ·rw [if_neg c48] at H
           exact absurd H (by simp)
        ·rw [if_neg c40] at H
         exact absurd H (by simp)
      ·rw [if_neg c31] at H
       exact absurd H (by simp)
     ·rw [if_neg c30] at H
      exact absurd H (by simp)
    ·rw [if_neg c29] at H
     exact absurd H (by simp)

end Go.Proofs.Ytdilndbanhianaa.P

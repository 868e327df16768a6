-- Written by a program of this session (myprint.py over the kit's print): the Go functions of the seat as Lean functions, and what their calls do.
import Derived.Test.YtdilndbanhianaaVMA
import Derived.Test.YtdilndbanhianaaP36
import Derived.Test.YtdilndbanhianaaP40
import Derived.Test.YtdilndbanhianaaP41
import Derived.Test.YtdilndbanhianaaP42
import Derived.Test.YtdilndbanhianaaP58
namespace Go.Proofs.Ytdilndbanhianaa.P
open Go.RowKit Go.Proofs.YtdilndbanhianaaW.PrintWords Go.Proofs.YtdilndbanhianaaW.PrintLast Go.Proofs.YtdilndbanhianaaW.PrintMore
attribute [local go_sem] max2_int min2_int max_two min_two max_three min_three max_four min_four   -- for this text's walks alone
set_option linter.unusedVariables false
set_option linter.unusedSimpArgs false

/-! ### dancestudiolaw26_RepeatsFinds: function 16 -/
def dancestudiolaw26_RepeatsFinds.f (k : Nat) (l0 : List (S29)) (a1 : Int) (a2 : Int) : Option (Bool) := if (l0.length : Int) > 60 then ((dancestudiolaw26_awake.f k).bind fun t969 => (some t969)) else (if a1 > 300 then (if a1 ≤ 8192 then ((dancestudiolaw26_awake.f k).bind fun t970 => (some t970)) else ((repeats_Find.f k l0 a1 a2).bind fun bt971 => ((dancestudioref26_Find.f k l0 a1 a2).bind fun bt979 => ((dancestudioref26_Same.f k bt971.1 bt979.1).bind fun t987 => (if t987 = true then (if bt971.2.1 = bt979.2.1 then ((dancestudioref26_SameRepeats.f k bt971.2.2.1 bt979.2.2.1).bind fun t988 => (if t988 = true then (if bt971.2.2.2 = bt979.2.2.2 then ((dancestudiolaw26_awake.f k).bind fun t989 => (some t989)) else (none)) else (none))) else (none)) else (none)))))) else ((repeats_Find.f k l0 a1 a2).bind fun bt990 => ((dancestudioref26_Find.f k l0 a1 a2).bind fun bt998 => ((dancestudioref26_Same.f k bt990.1 bt998.1).bind fun t1006 => (if t1006 = true then (if bt990.2.1 = bt998.2.1 then ((dancestudioref26_SameRepeats.f k bt990.2.2.1 bt998.2.2.1).bind fun t1007 => (if t1007 = true then (if bt990.2.2.2 = bt998.2.2.2 then ((dancestudiolaw26_awake.f k).bind fun t1008 => (some t1008)) else (none)) else (none))) else (none)) else (none))))))
theorem dancestudiolaw26_RepeatsFinds.mono : ∀ a0 a1 a2 k, LeO (dancestudiolaw26_RepeatsFinds.f k a0 a1 a2) (dancestudiolaw26_RepeatsFinds.f (k + 1) a0 a1 a2) := by
 intro a0 a1 a2 k
 unfold dancestudiolaw26_RepeatsFinds.f
 repeat' first
   | (with_reducible exact dancestudiolaw26_awake.mono _)
   | (with_reducible exact dancestudioref26_Find.mono _ _ _ _)
   | (with_reducible exact dancestudioref26_Same.mono _ _ _)
   | (with_reducible exact dancestudioref26_SameRepeats.mono _ _ _)
   | (with_reducible exact repeats_Find.mono _ _ _ _)
   | (with_reducible exact LeO.refl _)
   | (with_reducible exact LeO.none _)
   | (with_reducible refine LeO.ite ?_ ?_)
   | (with_reducible refine LeO.bind ?_ (fun _ => ?_))
   | exact dancestudiolaw26_awake.mono _
   | exact dancestudioref26_Find.mono _ _ _ _
   | exact dancestudioref26_Same.mono _ _ _
   | exact dancestudioref26_SameRepeats.mono _ _ _
   | exact repeats_Find.mono _ _ _ _
   | exact LeO.none _
   | refine LeO.ite ?_ ?_
   | refine LeO.bind ?_ (fun _ => ?_)
set_option maxHeartbeats 8000000 in
set_option maxRecDepth 100000 in
theorem dancestudiolaw26_RepeatsFinds.calls (k : Nat) (A0 : Option Addr) (c0 : Nat) (l0 : List (S29)) (a1 : Int) (a2 : Int) (r : Bool) (w : World) (hr0 : Kd.C k29 w A0 l0.length l0) (hc0 : l0.length ≤ c0) (h : dancestudiolaw26_RepeatsFinds.f k l0 a1 a2 = some r) :
  Calls Try.prog 16 #[.slice A0 l0.length c0, .int .i64 a1, .int .i64 a2] w fun e w' => e = .returned (.bool r) ∧ Below w.heap.size w w' := by
 have HR0 := Aside0.mk hr0
 have HC0 := Aside0.mk hc0
 clear hr0 hc0
 have HB := Aside0.mk (Below.refl w.heap.size w)
 have H : (if (l0.length : Int) > 60 then ((dancestudiolaw26_awake.f k).bind fun t969 => (some t969)) else (if a1 > 300 then (if a1 ≤ 8192 then ((dancestudiolaw26_awake.f k).bind fun t970 => (some t970)) else ((repeats_Find.f k l0 a1 a2).bind fun bt971 => ((dancestudioref26_Find.f k l0 a1 a2).bind fun bt979 => ((dancestudioref26_Same.f k bt971.1 bt979.1).bind fun t987 => (if t987 = true then (if bt971.2.1 = bt979.2.1 then ((dancestudioref26_SameRepeats.f k bt971.2.2.1 bt979.2.2.1).bind fun t988 => (if t988 = true then (if bt971.2.2.2 = bt979.2.2.2 then ((dancestudiolaw26_awake.f k).bind fun t989 => (some t989)) else (none)) else (none))) else (none)) else (none)))))) else ((repeats_Find.f k l0 a1 a2).bind fun bt990 => ((dancestudioref26_Find.f k l0 a1 a2).bind fun bt998 => ((dancestudioref26_Same.f k bt990.1 bt998.1).bind fun t1006 => (if t1006 = true then (if bt990.2.1 = bt998.2.1 then ((dancestudioref26_SameRepeats.f k bt990.2.2.1 bt998.2.2.1).bind fun t1007 => (if t1007 = true then (if bt990.2.2.2 = bt998.2.2.2 then ((dancestudiolaw26_awake.f k).bind fun t1008 => (some t1008)) else (none)) else (none))) else (none)) else (none))))))) = some r := h
 clear h
 by_cases c4 : (l0.length : Int) > 60
 ·rw [if_pos c4] at H
  have c4b0 : decide (60 < (l0.length : Int)) = true := decide_eq_true c4
  have c4b1 : decide (60 < l0.length) = true := decide_eq_true (by omega)
  clear c4
  replace H := Option.bind_eq_some_iff.mp H
  obtain ⟨t969, A50, H⟩ := H
  replace H : (some t969) = some r := H
  have A5 := Aside0.mk A50
  clear A50
  obtain rfl := Option.some.inj H
  go_enter Try.func16, Try.ntmps16
  go_wp2_with (first | ((with_reducible refine gate_callee (f := 37) rfl ?_); refine goesL_ (some 26) rfl rfl Try.func37 (by kernel_rfl) rfl #[] rfl (by (try simp only [List.map_toArray, List.map_cons, List.map_nil]); first | done | rfl | (simp only [List.length_drop, List.length_take]; rfl)) ?_; (with_reducible refine (dancestudiolaw26_awake.calls k  t969 _ A5.out).mono ?_); rintro e w6 ⟨rfl, hb⟩; refine ⟨_, rfl, ?_⟩; have n0_ := Aside0.mk (below_step (hU HB.out) hb); clear HB; have HB := n0_; clear n0_; (try clear hb); (try clear hb2); (try clear hk); (try clear hi)))
  go_ret
  exact ⟨by first | rfl | (simp [errW_none, errW_some] <;> rfl) | (simp [*, errW_none, errW_some] <;> rfl), hU HB.out⟩
 ·rw [if_neg c4] at H
  have c4b0 : decide (60 < (l0.length : Int)) = false := decide_eq_false c4
  have c4b1 : decide (60 < l0.length) = false := decide_eq_false (by omega)
  clear c4
  by_cases c7 : a1 > 300
  ·rw [if_pos c7] at H
   have c7b0 : decide (300 < a1) = true := decide_eq_true c7
   clear c7
   by_cases c8 : a1 ≤ 8192
   ·rw [if_pos c8] at H
    have c8b0 : decide (a1 ≤ 8192) = true := decide_eq_true c8
    clear c8
    replace H := Option.bind_eq_some_iff.mp H
    obtain ⟨t970, A90, H⟩ := H
    replace H : (some t970) = some r := H
    have A9 := Aside0.mk A90
    clear A90
    obtain rfl := Option.some.inj H
    go_enter Try.func16, Try.ntmps16
    go_wp2_with (first | ((with_reducible refine gate_callee (f := 37) rfl ?_); refine goesL_ (some 26) rfl rfl Try.func37 (by kernel_rfl) rfl #[] rfl (by (try simp only [List.map_toArray, List.map_cons, List.map_nil]); first | done | rfl | (simp only [List.length_drop, List.length_take]; rfl)) ?_; (with_reducible refine (dancestudiolaw26_awake.calls k  t970 _ A9.out).mono ?_); rintro e w10 ⟨rfl, hb⟩; refine ⟨_, rfl, ?_⟩; have n0_ := Aside0.mk (below_step (hU HB.out) hb); clear HB; have HB := n0_; clear n0_; (try clear hb); (try clear hb2); (try clear hk); (try clear hi)))
    go_ret
    exact ⟨by first | rfl | (simp [errW_none, errW_some] <;> rfl) | (simp [*, errW_none, errW_some] <;> rfl), hU HB.out⟩
   ·rw [if_neg c8] at H
    have c8b0 : decide (a1 ≤ 8192) = false := decide_eq_false c8
    clear c8
    replace H := Option.bind_eq_some_iff.mp H
    obtain ⟨⟨t971, t972, t973, t974⟩, A110, H⟩ := H
    try dsimp only at H
    have A11 := Aside0.mk A110
    clear A110
    replace H := Option.bind_eq_some_iff.mp H
    obtain ⟨⟨t979, t980, t981, t982⟩, A120, H⟩ := H
    try dsimp only at H
    have A12 := Aside0.mk A120
    clear A120
    replace H := Option.bind_eq_some_iff.mp H
    obtain ⟨t987, A130, H⟩ := H
    try dsimp only at H
    have A13 := Aside0.mk A130
    clear A130
    by_cases c14 : t987 = true
    ·subst c14
     rw [if_pos rfl] at H
     by_cases c15 : t972 = t980
     ·rw [if_pos c15] at H
      have c15b0 : (t972 == t980) = true := beq_iff_eq.mpr c15
      have c15b1 : (t972 != t980) = false := bne_eq_false_iff_eq.mpr c15
      clear c15
      replace H := Option.bind_eq_some_iff.mp H
      obtain ⟨t988, A160, H⟩ := H
      replace H : (if t988 = true then (if t974 = t982 then ((dancestudiolaw26_awake.f k).bind fun t989 => (some t989)) else (none)) else (none)) = some r := H
      have A16 := Aside0.mk A160
      clear A160
      by_cases c17 : t988 = true
      ·subst c17
       have H1 : (if t974 = t982 then ((dancestudiolaw26_awake.f k).bind fun t989 => (some t989)) else (none)) = some r := by rw [if_pos rfl] at H; exact H
       clear H
       have H := H1
       clear H1
       by_cases c18 : t974 = t982
       ·rw [if_pos c18] at H
        have c18b0 : (t974 == t982) = true := beq_iff_eq.mpr c18
        have c18b1 : (t974 != t982) = false := bne_eq_false_iff_eq.mpr c18
        clear c18
        replace H := Option.bind_eq_some_iff.mp H
        obtain ⟨t989, A190, H⟩ := H
        replace H : (some t989) = some r := H
        have A19 := Aside0.mk A190
        clear A190
        obtain rfl := Option.some.inj H
        go_enter Try.func16, Try.ntmps16
        go_wp2_with (first | ((with_reducible refine gate_callee (f := 48) rfl ?_); refine goesL_ (some 31) rfl rfl Try.func48 (by kernel_rfl) rfl #[.slice A0 l0.length c0, .int .i64 a1, .int .i64 a2] rfl (by (try simp only [List.map_toArray, List.map_cons, List.map_nil]); first | done | rfl | (simp only [List.length_drop, List.length_take]; rfl)) ?_; (with_reducible refine (repeats_Find.calls k _ _ l0 a1 a2 t971 t972 t973 t974 _ ?side1 ?side2 A11.out).mono ?_); (case side1 => repeat (first | exact HR0.out | (with_reducible refine Kd.C_alloc ?_ _) | (with_reducible refine Kd.C_drewN ?_ _) | (with_reducible refine Kd.C_drew ?_))); (case side2 => exact HC0.out); rintro e w20 ⟨v975, v977, rfl, ho0, ho1, hb⟩; refine ⟨_, rfl, ?_⟩; have n0_ := Aside0.mk (Kd.R_lower ho0 (below_size (hU HB.out))); have n1_ := Aside0.mk (Kd.R_lower ho1 (below_size (hU HB.out))); have n2_ := Aside0.mk (below_step (hU HB.out) hb); clear HB; have HO976 := n0_; have HO978 := n1_; have HB := n2_; clear n0_ n1_ n2_; (try clear hb); (try clear hb2); (try clear hk); (try clear hi); (try clear ho0); (try clear ho1)) | ((with_reducible refine gate_callee (f := 49) rfl ?_); refine goesL_ (some 40) rfl rfl Try.func49 (by kernel_rfl) rfl #[.slice A0 l0.length c0, .int .i64 a1, .int .i64 a2] rfl (by (try simp only [List.map_toArray, List.map_cons, List.map_nil]); first | done | rfl | (simp only [List.length_drop, List.length_take]; rfl)) ?_; (with_reducible refine (dancestudioref26_Find.calls k _ _ l0 a1 a2 t979 t980 t981 t982 _ ?side1 ?side2 A12.out).mono ?_); (case side1 => repeat (first | exact (Kd.C_below HR0.out HB.out) | (with_reducible refine Kd.C_alloc ?_ _) | (with_reducible refine Kd.C_drewN ?_ _) | (with_reducible refine Kd.C_drew ?_))); (case side2 => exact HC0.out); rintro e w21 ⟨v983, v985, rfl, ho0, ho1, hb⟩; refine ⟨_, rfl, ?_⟩; have n0_ := Aside0.mk (Kd.R_elder' (Kd.rU HO976.out) (Kd.R_base ho0) hb); have n1_ := Aside0.mk (Kd.R_elder' (Kd.rU HO978.out) (Kd.R_base ho1) hb); have n2_ := Aside0.mk (Kd.R_lower (Kd.R_new' ho0 (Kd.R_lt (Kd.rU HO976.out))) (below_size (hU HB.out))); have n3_ := Aside0.mk (Kd.R_lower (Kd.R_new' ho1 (Kd.R_lt (Kd.rU HO978.out))) (below_size (hU HB.out))); have n4_ := Aside0.mk (below_step (hU HB.out) hb); clear HO976; clear HO978; clear HB; have HO976 := n0_; have HO978 := n1_; have HO984 := n2_; have HO986 := n3_; have HB := n4_; clear n0_ n1_ n2_ n3_ n4_; (try clear hb); (try clear hb2); (try clear hk); (try clear hi); (try clear ho0); (try clear ho1); obtain ⟨Ao22, co22, eo22⟩ := Kd.R_slice HO976.out; subst eo22; obtain ⟨Ao23, co23, eo23⟩ := Kd.R_slice HO984.out; subst eo23) | ((with_reducible refine gate_callee (f := 46) rfl ?_); refine goesL_ (some 47) rfl rfl Try.func46 (by kernel_rfl) rfl #[.slice Ao22 t971.length co22, .slice Ao23 t979.length co23] rfl (by (try simp only [List.map_toArray, List.map_cons, List.map_nil]); first | done | rfl | (simp only [List.length_drop, List.length_take]; rfl)) ?_; (with_reducible refine (dancestudioref26_Same.calls k _ _ t971 _ _ t979 true _ ?side1 ?side2 ?side3 ?side4 A13.out).mono ?_); (case side1 => repeat (first | exact (Kd.R_reads' HO976.out).2.2 | (with_reducible refine Kd.C_alloc ?_ _) | (with_reducible refine Kd.C_drewN ?_ _) | (with_reducible refine Kd.C_drew ?_))); (case side2 => exact (Kd.R_reads' HO976.out).2.1); (case side3 => repeat (first | exact (Kd.R_reads' HO984.out).2.2 | (with_reducible refine Kd.C_alloc ?_ _) | (with_reducible refine Kd.C_drewN ?_ _) | (with_reducible refine Kd.C_drew ?_))); (case side4 => exact (Kd.R_reads' HO984.out).2.1); rintro e w' ⟨rfl, ⟨nd, rfl⟩⟩; refine ⟨_, rfl, ?_⟩; obtain ⟨Ao24, co24, eo24⟩ := Kd.R_slice HO978.out; subst eo24; obtain ⟨Ao25, co25, eo25⟩ := Kd.R_slice HO986.out; subst eo25) | (go_at_call 50; (with_reducible refine (dancestudioref26_SameRepeats.calls k _ _ t973 _ _ t981 true _ ?side1 ?side2 ?side3 ?side4 A16.out).mono ?_); (case side1 => repeat (first | exact (Kd.R_reads' HO978.out).2.2 | (with_reducible refine Kd.C_alloc ?_ _) | (with_reducible refine Kd.C_drewN ?_ _) | (with_reducible refine Kd.C_drew ?_))); (case side2 => exact (Kd.R_reads' HO978.out).2.1); (case side3 => repeat (first | exact (Kd.R_reads' HO986.out).2.2 | (with_reducible refine Kd.C_alloc ?_ _) | (with_reducible refine Kd.C_drewN ?_ _) | (with_reducible refine Kd.C_drew ?_))); (case side4 => exact (Kd.R_reads' HO986.out).2.1); rintro e w' ⟨rfl, ⟨nd, rfl⟩⟩) | (go_at_call 37; (with_reducible refine (dancestudiolaw26_awake.calls k  t989 _ A19.out).mono ?_); rintro e w26 ⟨rfl, hb⟩; have n0_ := Aside0.mk (Kd.R_below (Kd.rU HO976.out) hb); have n1_ := Aside0.mk (Kd.R_below (Kd.rU HO978.out) hb); have n2_ := Aside0.mk (Kd.R_below (Kd.rU HO984.out) hb); have n3_ := Aside0.mk (Kd.R_below (Kd.rU HO986.out) hb); have n4_ := Aside0.mk (below_step (hU HB.out) hb); clear HO976; clear HO978; clear HO984; clear HO986; clear HB; have HO976 := n0_; have HO978 := n1_; have HO984 := n2_; have HO986 := n3_; have HB := n4_; clear n0_ n1_ n2_ n3_ n4_; (try clear hb); (try clear hb2); (try clear hk); (try clear hi)))
        go_ret
        exact ⟨by first | rfl | (simp [errW_none, errW_some] <;> rfl) | (simp [*, errW_none, errW_some] <;> rfl), hU HB.out⟩
       ·rw [if_neg c18] at H
        exact absurd H (by simp)
      ·replace c17 := Bool.eq_false_iff.mpr c17
       subst c17
       have H1 : (none) = some r := by rw [if_neg (show ¬ (false = true) by decide)] at H; exact H
       clear H
       have H := H1
       clear H1
       exact absurd H (by simp)
     ·rw [if_neg c15] at H
      exact absurd H (by simp)
    ·replace c14 := Bool.eq_false_iff.mpr c14
     subst c14
     have H1 : (none) = some r := by rw [if_neg (show ¬ (false = true) by decide)] at H; exact H
     clear H
     have H := H1
     clear H1
     exact absurd H (by simp)
  ·rw [if_neg c7] at H
   have c7b0 : decide (300 < a1) = false := decide_eq_false c7
   clear c7
   replace H := Option.bind_eq_some_iff.mp H
   obtain ⟨⟨t990, t991, t992, t993⟩, A270, H⟩ := H
   try dsimp only at H
   have A27 := Aside0.mk A270
   clear A270
   replace H := Option.bind_eq_some_iff.mp H
   obtain ⟨⟨t998, t999, t1000, t1001⟩, A280, H⟩ := H
   try dsimp only at H
   have A28 := Aside0.mk A280
   clear A280
   replace H := Option.bind_eq_some_iff.mp H
   obtain ⟨t1006, A290, H⟩ := H
   try dsimp only at H
   have A29 := Aside0.mk A290
   clear A290
   by_cases c30 : t1006 = true
   ·subst c30
    rw [if_pos rfl] at H
    by_cases c31 : t991 = t999
    ·rw [if_pos c31] at H
     have c31b0 : (t991 == t999) = true := beq_iff_eq.mpr c31
     have c31b1 : (t991 != t999) = false := bne_eq_false_iff_eq.mpr c31
     clear c31
     replace H := Option.bind_eq_some_iff.mp H
     obtain ⟨t1007, A320, H⟩ := H
     replace H : (if t1007 = true then (if t993 = t1001 then ((dancestudiolaw26_awake.f k).bind fun t1008 => (some t1008)) else (none)) else (none)) = some r := H
     have A32 := Aside0.mk A320
     clear A320
     by_cases c33 : t1007 = true
     ·subst c33
      have H1 : (if t993 = t1001 then ((dancestudiolaw26_awake.f k).bind fun t1008 => (some t1008)) else (none)) = some r := by rw [if_pos rfl] at H; exact H
      clear H
      have H := H1
      clear H1
      by_cases c34 : t993 = t1001
      ·rw [if_pos c34] at H
       have c34b0 : (t993 == t1001) = true := beq_iff_eq.mpr c34
       have c34b1 : (t993 != t1001) = false := bne_eq_false_iff_eq.mpr c34
       clear c34
       replace H := Option.bind_eq_some_iff.mp H
       obtain ⟨t1008, A350, H⟩ := H
       replace H : (some t1008) = some r := H
       have A35 := Aside0.mk A350
       clear A350
       obtain rfl := Option.some.inj H
       go_enter Try.func16, Try.ntmps16
       go_wp2_with (first | ((with_reducible refine gate_callee (f := 48) rfl ?_); refine goesL_ (some 31) rfl rfl Try.func48 (by kernel_rfl) rfl #[.slice A0 l0.length c0, .int .i64 a1, .int .i64 a2] rfl (by (try simp only [List.map_toArray, List.map_cons, List.map_nil]); first | done | rfl | (simp only [List.length_drop, List.length_take]; rfl)) ?_; (with_reducible refine (repeats_Find.calls k _ _ l0 a1 a2 t990 t991 t992 t993 _ ?side1 ?side2 A27.out).mono ?_); (case side1 => repeat (first | exact HR0.out | (with_reducible refine Kd.C_alloc ?_ _) | (with_reducible refine Kd.C_drewN ?_ _) | (with_reducible refine Kd.C_drew ?_))); (case side2 => exact HC0.out); rintro e w36 ⟨v994, v996, rfl, ho0, ho1, hb⟩; refine ⟨_, rfl, ?_⟩; have n0_ := Aside0.mk (Kd.R_lower ho0 (below_size (hU HB.out))); have n1_ := Aside0.mk (Kd.R_lower ho1 (below_size (hU HB.out))); have n2_ := Aside0.mk (below_step (hU HB.out) hb); clear HB; have HO995 := n0_; have HO997 := n1_; have HB := n2_; clear n0_ n1_ n2_; (try clear hb); (try clear hb2); (try clear hk); (try clear hi); (try clear ho0); (try clear ho1)) | ((with_reducible refine gate_callee (f := 49) rfl ?_); refine goesL_ (some 40) rfl rfl Try.func49 (by kernel_rfl) rfl #[.slice A0 l0.length c0, .int .i64 a1, .int .i64 a2] rfl (by (try simp only [List.map_toArray, List.map_cons, List.map_nil]); first | done | rfl | (simp only [List.length_drop, List.length_take]; rfl)) ?_; (with_reducible refine (dancestudioref26_Find.calls k _ _ l0 a1 a2 t998 t999 t1000 t1001 _ ?side1 ?side2 A28.out).mono ?_); (case side1 => repeat (first | exact (Kd.C_below HR0.out HB.out) | (with_reducible refine Kd.C_alloc ?_ _) | (with_reducible refine Kd.C_drewN ?_ _) | (with_reducible refine Kd.C_drew ?_))); (case side2 => exact HC0.out); rintro e w37 ⟨v1002, v1004, rfl, ho0, ho1, hb⟩; refine ⟨_, rfl, ?_⟩; have n0_ := Aside0.mk (Kd.R_elder' (Kd.rU HO995.out) (Kd.R_base ho0) hb); have n1_ := Aside0.mk (Kd.R_elder' (Kd.rU HO997.out) (Kd.R_base ho1) hb); have n2_ := Aside0.mk (Kd.R_lower (Kd.R_new' ho0 (Kd.R_lt (Kd.rU HO995.out))) (below_size (hU HB.out))); have n3_ := Aside0.mk (Kd.R_lower (Kd.R_new' ho1 (Kd.R_lt (Kd.rU HO997.out))) (below_size (hU HB.out))); have n4_ := Aside0.mk (below_step (hU HB.out) hb); clear HO995; clear HO997; clear HB; have HO995 := n0_; have HO997 := n1_; have HO1003 := n2_; have HO1005 := n3_; have HB := n4_; clear n0_ n1_ n2_ n3_ n4_; (try clear hb); (try clear hb2); (try clear hk); (try clear hi); (try clear ho0); (try clear ho1); obtain ⟨Ao38, co38, eo38⟩ := Kd.R_slice HO995.out; subst eo38; obtain ⟨Ao39, co39, eo39⟩ := Kd.R_slice HO1003.out; subst eo39) | ((with_reducible refine gate_callee (f := 46) rfl ?_); refine goesL_ (some 47) rfl rfl Try.func46 (by kernel_rfl) rfl #[.slice Ao38 t990.length co38, .slice Ao39 t998.length co39] rfl (by (try simp only [List.map_toArray, List.map_cons, List.map_nil]); first | done | rfl | (simp only [List.length_drop, List.length_take]; rfl)) ?_; (with_reducible refine (dancestudioref26_Same.calls k _ _ t990 _ _ t998 true _ ?side1 ?side2 ?side3 ?side4 A29.out).mono ?_); (case side1 => repeat (first | exact (Kd.R_reads' HO995.out).2.2 | (with_reducible refine Kd.C_alloc ?_ _) | (with_reducible refine Kd.C_drewN ?_ _) | (with_reducible refine Kd.C_drew ?_))); (case side2 => exact (Kd.R_reads' HO995.out).2.1); (case side3 => repeat (first | exact (Kd.R_reads' HO1003.out).2.2 | (with_reducible refine Kd.C_alloc ?_ _) | (with_reducible refine Kd.C_drewN ?_ _) | (with_reducible refine Kd.C_drew ?_))); (case side4 => exact (Kd.R_reads' HO1003.out).2.1); rintro e w' ⟨rfl, ⟨nd, rfl⟩⟩; refine ⟨_, rfl, ?_⟩; obtain ⟨Ao40, co40, eo40⟩ := Kd.R_slice HO997.out; subst eo40; obtain ⟨Ao41, co41, eo41⟩ := Kd.R_slice HO1005.out; subst eo41) | (go_at_call 50; (with_reducible refine (dancestudioref26_SameRepeats.calls k _ _ t992 _ _ t1000 true _ ?side1 ?side2 ?side3 ?side4 A32.out).mono ?_); (case side1 => repeat (first | exact (Kd.R_reads' HO997.out).2.2 | (with_reducible refine Kd.C_alloc ?_ _) | (with_reducible refine Kd.C_drewN ?_ _) | (with_reducible refine Kd.C_drew ?_))); (case side2 => exact (Kd.R_reads' HO997.out).2.1); (case side3 => repeat (first | exact (Kd.R_reads' HO1005.out).2.2 | (with_reducible refine Kd.C_alloc ?_ _) | (with_reducible refine Kd.C_drewN ?_ _) | (with_reducible refine Kd.C_drew ?_))); (case side4 => exact (Kd.R_reads' HO1005.out).2.1); rintro e w' ⟨rfl, ⟨nd, rfl⟩⟩) | (go_at_call 37; (with_reducible refine (dancestudiolaw26_awake.calls k  t1008 _ A35.out).mono ?_); rintro e w42 ⟨rfl, hb⟩; have n0_ := Aside0.mk (Kd.R_below (Kd.rU HO995.out) hb); have n1_ := Aside0.mk (Kd.R_below (Kd.rU HO997.out) hb); have n2_ := Aside0.mk (Kd.R_below (Kd.rU HO1003.out) hb); have n3_ := Aside0.mk (Kd.R_below (Kd.rU HO1005.out) hb); have n4_ := Aside0.mk (below_step (hU HB.out) hb); clear HO995; clear HO997; clear HO1003; clear HO1005; clear HB; have HO995 := n0_; have HO997 := n1_; have HO1003 := n2_; have HO1005 := n3_; have HB := n4_; clear n0_ n1_ n2_ n3_ n4_; (try clear hb); (try clear hb2); (try clear hk); (try clear hi)))
       go_ret
       exact ⟨by first | rfl | (simp [errW_none, errW_some] <;> rfl) | (simp [*, errW_none, errW_some] <;> rfl), hU HB.out⟩
      ·rw [if_neg c34] at H
       exact absurd H (by simp)
     ·replace c33 := Bool.eq_false_iff.mpr c33
      subst c33
      have H1 : (none) = some r := by rw [if_neg (show ¬ (false = true) by decide)] at H; exact H
      clear H
      have H := H1
      clear H1
      exact absurd H (by simp)
    ·rw [if_neg c31] at H
     exact absurd H (by simp)
   ·replace c30 := Bool.eq_false_iff.mpr c30
    subst c30
    have H1 : (none) = some r := by rw [if_neg (show ¬ (false = true) by decide)] at H; exact H
    clear H
    have H := H1
    clear H1
    exact absurd H (by simp)

end Go.Proofs.Ytdilndbanhianaa.P

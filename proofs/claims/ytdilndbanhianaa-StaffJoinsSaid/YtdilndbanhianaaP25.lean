-- Written by a program of this session (myprint.py over the kit's print): the Go functions of the seat as Lean functions, and what their calls do.
import Derived.Test.YtdilndbanhianaaReg
import Derived.Test.YtdilndbanhianaaNw
import Derived.Test.YtdilndbanhianaaMA
import Derived.Test.YtdilndbanhianaaMB
namespace Go.Proofs.Ytdilndbanhianaa.P
open Go.RowKit Go.Proofs.YtdilndbanhianaaW.PrintWords Go.Proofs.YtdilndbanhianaaW.PrintLast Go.Proofs.YtdilndbanhianaaW.PrintMore
attribute [local go_sem] max2_int min2_int max_two min_two max_three min_three max_four min_four   -- for this text's walks alone
set_option linter.unusedVariables false
set_option linter.unusedSimpArgs false

-- NOT PRINTED: function 5 (dancestudiolaw24_StaffReads)

/-! ### dancestudioref24_Join: function 33 -/
def dancestudioref24_Join.l0 : Nat → Int → List (S29) → List (S29) → Int → Option ((List (S29)) × Int)
 | 0, _, _, _, _ => none
 | k + 1, x1, x2, x12, x13 => if x13 < (x2.length : Int) then (if 0 ≤ x13 then (if x12.length < 2513169434916 then (dancestudioref24_Join.l0 k x1 x2 (x12 ++ [(⟨(rd_T29 x2 x13).f0, (rd_T29 x2 x13).f1, wrap64 (((rd_T29 x2 x13).f2) + x1), (rd_T29 x2 x13).f3, (rd_T29 x2 x13).f4, (rd_T29 x2 x13).f5, (rd_T29 x2 x13).f6⟩ : S29)]) (wrap64 (x13 + 1))) else (none)) else (none)) else (some (x12, 0))
def dancestudioref24_Join.f (k : Nat) (l0 : List (S29)) (a1 : Int) (l2 : List (S29)) (a3 : Int) : Option ((List (S29)) × Int) := (dancestudioref24_Check.f k l0 a1).bind fun t364 => (if t364 = 0 then ((dancestudioref24_Check.f k l2 a3).bind fun t365 => (if t365 = 0 then (if (wrap64 (a1 + a3)) > 8192 then (some (([] : List (S29)), 1)) else (if (wrap64 ((l0.length : Int) + (l2.length : Int))) > 256 then (some (([] : List (S29)), 3)) else (if ([] : List (S29)).length + l0.length < 2513169434916 then (dancestudioref24_Join.l0 k a1 l2 (([] : List (S29)) ++ l0) 0) else (none)))) else (some (([] : List (S29)), t365)))) else (some (([] : List (S29)), t364)))
theorem dancestudioref24_Join.mono_l : ∀ k, (∀ y0 y1 y2 y3, LeO (dancestudioref24_Join.l0 k y0 y1 y2 y3) (dancestudioref24_Join.l0 (k + 1) y0 y1 y2 y3))
 | 0 => fun _ _ _ _ r h => by simp [dancestudioref24_Join.l0] at h
 | k + 1 => by
  have ih0 := dancestudioref24_Join.mono_l k
  ·intro y0 y1 y2 y3
   unfold dancestudioref24_Join.l0
   repeat' first
   | (with_reducible exact ih0 _ _ _ _)
   | (with_reducible exact dancestudioref24_Check.mono _ _ _)
   | (with_reducible exact LeO.refl _)
   | (with_reducible exact LeO.none _)
   | (with_reducible refine LeO.ite ?_ ?_)
   | (with_reducible refine LeO.bind ?_ (fun _ => ?_))
   | exact ih0 _ _ _ _
   | exact dancestudioref24_Check.mono _ _ _
   | exact LeO.none _
   | refine LeO.ite ?_ ?_
   | refine LeO.bind ?_ (fun _ => ?_)
theorem dancestudioref24_Join.mono : ∀ a0 a1 a2 a3 k, LeO (dancestudioref24_Join.f k a0 a1 a2 a3) (dancestudioref24_Join.f (k + 1) a0 a1 a2 a3) := by
 intro a0 a1 a2 a3 k
 have ih0 := dancestudioref24_Join.mono_l k
 unfold dancestudioref24_Join.f
 repeat' first
   | (with_reducible exact ih0 _ _ _ _)
   | (with_reducible exact dancestudioref24_Check.mono _ _ _)
   | (with_reducible exact LeO.refl _)
   | (with_reducible exact LeO.none _)
   | (with_reducible refine LeO.ite ?_ ?_)
   | (with_reducible refine LeO.bind ?_ (fun _ => ?_))
   | exact ih0 _ _ _ _
   | exact dancestudioref24_Check.mono _ _ _
   | exact LeO.none _
   | refine LeO.ite ?_ ?_
   | refine LeO.bind ?_ (fun _ => ?_)
set_option maxHeartbeats 8000000 in
set_option maxRecDepth 100000 in
theorem dancestudioref24_Join.calls (k : Nat) (A0 : Option Addr) (c0 : Nat) (l0 : List (S29)) (a1 : Int) (A2 : Option Addr) (c2 : Nat) (l2 : List (S29)) (a3 : Int) (r1 : List (S29)) (r2 : Int) (w : World) (hr0 : Kd.C k29 w A0 l0.length l0) (hc0 : l0.length ≤ c0) (hr2 : Kd.C k29 w A2 l2.length l2) (hc2 : l2.length ≤ c2) (h : dancestudioref24_Join.f k l0 a1 l2 a3 = some (r1, r2)) :
  Calls Try.prog 33 #[.slice A0 l0.length c0, .int .i64 a1, .slice A2 l2.length c2, .int .i64 a3] w fun e w' => ∃ v0_ : Value, e = .returned (.tuple #[v0_, .int .i64 r2]) ∧ Kd.R k29 29 w' w.heap.size (fun _ => True) v0_ r1 ∧ Below w.heap.size w w' := by
 have hu29 := Try.underlying29
 have HR0 := Aside0.mk hr0
 have HC0 := Aside0.mk hc0
 clear hr0 hc0
 have HR2 := Aside0.mk hr2
 have HC2 := Aside0.mk hc2
 clear hr2 hc2
 have HB := Aside0.mk (Below.refl w.heap.size w)
 have H : ((dancestudioref24_Check.f k l0 a1).bind fun t364 => (if t364 = 0 then ((dancestudioref24_Check.f k l2 a3).bind fun t365 => (if t365 = 0 then (if (wrap64 (a1 + a3)) > 8192 then (some (([] : List (S29)), 1)) else (if (wrap64 ((l0.length : Int) + (l2.length : Int))) > 256 then (some (([] : List (S29)), 3)) else (if ([] : List (S29)).length + l0.length < 2513169434916 then (dancestudioref24_Join.l0 k a1 l2 (([] : List (S29)) ++ l0) 0) else (none)))) else (some (([] : List (S29)), t365)))) else (some (([] : List (S29)), t364)))) = some (r1, r2) := h
 clear h
 replace H := Option.bind_eq_some_iff.mp H
 obtain ⟨t364, A50, H⟩ := H
 try dsimp only at H
 have A5 := Aside0.mk A50
 clear A50
 by_cases c6 : t364 = 0
 ·rw [if_pos c6] at H
  have c6b0 : (t364 == 0) = true := beq_iff_eq.mpr c6
  have c6b1 : (t364 != 0) = false := bne_eq_false_iff_eq.mpr c6
  clear c6
  replace H := Option.bind_eq_some_iff.mp H
  obtain ⟨t365, A70, H⟩ := H
  try dsimp only at H
  have A7 := Aside0.mk A70
  clear A70
  by_cases c8 : t365 = 0
  ·rw [if_pos c8] at H
   have c8b0 : (t365 == 0) = true := beq_iff_eq.mpr c8
   have c8b1 : (t365 != 0) = false := bne_eq_false_iff_eq.mpr c8
   clear c8
   by_cases c9 : (wrap64 (a1 + a3)) > 8192
   ·rw [if_pos c9] at H
    have c9b0 : decide (8192 < (wrap64 (a1 + a3))) = true := decide_eq_true c9
    clear c9
    simp only [Option.some.injEq, Prod.mk.injEq] at H
    obtain ⟨rfl, rfl⟩ := H
    go_enter Try.func33, Try.ntmps33
    go_wp2_with (first | ((with_reducible refine gate_callee (f := 21) rfl ?_); refine goesL_ (some 17) rfl rfl Try.func21 (by kernel_rfl) rfl #[.slice A0 l0.length c0, .int .i64 a1] rfl (by (try simp only [List.map_toArray, List.map_cons, List.map_nil]); first | done | rfl | (simp only [List.length_drop, List.length_take]; rfl)) ?_; (with_reducible refine (dancestudioref24_Check.calls k _ _ l0 a1 t364 _ ?side1 ?side2 A5.out).mono ?_); (case side1 => repeat (first | exact HR0.out | (with_reducible refine Kd.C_alloc ?_ _) | (with_reducible refine Kd.C_drewN ?_ _) | (with_reducible refine Kd.C_drew ?_))); (case side2 => exact HC0.out); rintro e w10 ⟨rfl, hb⟩; refine ⟨_, rfl, ?_⟩; have n0_ := Aside0.mk (below_step (hU HB.out) hb); clear HB; have HB := n0_; clear n0_; (try clear hb); (try clear hb2); (try clear hk); (try clear hi)) | ((with_reducible refine gate_callee (f := 21) rfl ?_); refine goesL_ (some 23) rfl rfl Try.func21 (by kernel_rfl) rfl #[.slice A2 l2.length c2, .int .i64 a3] rfl (by (try simp only [List.map_toArray, List.map_cons, List.map_nil]); first | done | rfl | (simp only [List.length_drop, List.length_take]; rfl)) ?_; (with_reducible refine (dancestudioref24_Check.calls k _ _ l2 a3 t365 _ ?side1 ?side2 A7.out).mono ?_); (case side1 => repeat (first | exact (Kd.C_below HR2.out HB.out) | (with_reducible refine Kd.C_alloc ?_ _) | (with_reducible refine Kd.C_drewN ?_ _) | (with_reducible refine Kd.C_drew ?_))); (case side2 => exact HC2.out); rintro e w11 ⟨rfl, hb⟩; refine ⟨_, rfl, ?_⟩; have n0_ := Aside0.mk (below_step (hU HB.out) hb); clear HB; have HB := n0_; clear n0_; (try clear hb); (try clear hb2); (try clear hk); (try clear hi)))
    go_ret2
    exact ⟨_, by first | rfl | (simp [errW_none, errW_some] <;> rfl) | (simp [*, errW_none, errW_some] <;> rfl), by first | exact Kd.R_nil _ _ _ _ _ | exact Kd.N_nil _ _ _ _ _ | exact Kd.V_nil _ _ _ _ _ | exact Kd.Q_nil _ _ _ _ _ | exact Kd.S_nil _ _ _ _ _, hU HB.out⟩
   ·rw [if_neg c9] at H
    have c9b0 : decide (8192 < (wrap64 (a1 + a3))) = false := decide_eq_false c9
    clear c9
    by_cases c12 : (wrap64 ((l0.length : Int) + (l2.length : Int))) > 256
    ·rw [if_pos c12] at H
     have c12b0 : decide (256 < (wrap64 ((l0.length : Int) + (l2.length : Int)))) = true := decide_eq_true c12
     clear c12
     simp only [Option.some.injEq, Prod.mk.injEq] at H
     obtain ⟨rfl, rfl⟩ := H
     go_enter Try.func33, Try.ntmps33
     go_wp2_with (first | ((with_reducible refine gate_callee (f := 21) rfl ?_); refine goesL_ (some 17) rfl rfl Try.func21 (by kernel_rfl) rfl #[.slice A0 l0.length c0, .int .i64 a1] rfl (by (try simp only [List.map_toArray, List.map_cons, List.map_nil]); first | done | rfl | (simp only [List.length_drop, List.length_take]; rfl)) ?_; (with_reducible refine (dancestudioref24_Check.calls k _ _ l0 a1 t364 _ ?side1 ?side2 A5.out).mono ?_); (case side1 => repeat (first | exact HR0.out | (with_reducible refine Kd.C_alloc ?_ _) | (with_reducible refine Kd.C_drewN ?_ _) | (with_reducible refine Kd.C_drew ?_))); (case side2 => exact HC0.out); rintro e w13 ⟨rfl, hb⟩; refine ⟨_, rfl, ?_⟩; have n0_ := Aside0.mk (below_step (hU HB.out) hb); clear HB; have HB := n0_; clear n0_; (try clear hb); (try clear hb2); (try clear hk); (try clear hi)) | ((with_reducible refine gate_callee (f := 21) rfl ?_); refine goesL_ (some 23) rfl rfl Try.func21 (by kernel_rfl) rfl #[.slice A2 l2.length c2, .int .i64 a3] rfl (by (try simp only [List.map_toArray, List.map_cons, List.map_nil]); first | done | rfl | (simp only [List.length_drop, List.length_take]; rfl)) ?_; (with_reducible refine (dancestudioref24_Check.calls k _ _ l2 a3 t365 _ ?side1 ?side2 A7.out).mono ?_); (case side1 => repeat (first | exact (Kd.C_below HR2.out HB.out) | (with_reducible refine Kd.C_alloc ?_ _) | (with_reducible refine Kd.C_drewN ?_ _) | (with_reducible refine Kd.C_drew ?_))); (case side2 => exact HC2.out); rintro e w14 ⟨rfl, hb⟩; refine ⟨_, rfl, ?_⟩; have n0_ := Aside0.mk (below_step (hU HB.out) hb); clear HB; have HB := n0_; clear n0_; (try clear hb); (try clear hb2); (try clear hk); (try clear hi)))
     go_ret2
     exact ⟨_, by first | rfl | (simp [errW_none, errW_some] <;> rfl) | (simp [*, errW_none, errW_some] <;> rfl), by first | exact Kd.R_nil _ _ _ _ _ | exact Kd.N_nil _ _ _ _ _ | exact Kd.V_nil _ _ _ _ _ | exact Kd.Q_nil _ _ _ _ _ | exact Kd.S_nil _ _ _ _ _, hU HB.out⟩
    ·rw [if_neg c12] at H
     have c12b0 : decide (256 < (wrap64 ((l0.length : Int) + (l2.length : Int)))) = false := decide_eq_false c12
     clear c12
     by_cases c15 : ([] : List (S29)).length + l0.length < 2513169434916
     ·rw [if_pos c15] at H
      have LMc15 := Aside0.mk c15
      clear c15
      obtain ⟨y366, hy366⟩ : ∃ y_ : List (S29), y_ = (([] : List (S29)) ++ l0) := ⟨_, rfl⟩
      replace H : (dancestudioref24_Join.l0 k a1 l2 y366 0) = some (r1, r2) := by first | (rw [hy366]; with_reducible exact H) | (have H2_ := (Option.bind_some _ _).symm.trans H; rw [hy366]; with_reducible exact H2_) | (have H2_ := (Option.bind_some _ _).symm.trans H; with_reducible exact H2_) | with_reducible exact H | (rw [hy366]; exact H) | exact H
      have Ny366 := Aside0.mk hy366
      clear hy366
      have H' := Aside0.mk H
      clear H
      go_enter Try.func33, Try.ntmps33
      go_wp2_with (first | ((with_reducible refine gate_callee (f := 21) rfl ?_); refine goesL_ (some 17) rfl rfl Try.func21 (by kernel_rfl) rfl #[.slice A0 l0.length c0, .int .i64 a1] rfl (by (try simp only [List.map_toArray, List.map_cons, List.map_nil]); first | done | rfl | (simp only [List.length_drop, List.length_take]; rfl)) ?_; (with_reducible refine (dancestudioref24_Check.calls k _ _ l0 a1 t364 _ ?side1 ?side2 A5.out).mono ?_); (case side1 => repeat (first | exact HR0.out | (with_reducible refine Kd.C_alloc ?_ _) | (with_reducible refine Kd.C_drewN ?_ _) | (with_reducible refine Kd.C_drew ?_))); (case side2 => exact HC0.out); rintro e w16 ⟨rfl, hb⟩; refine ⟨_, rfl, ?_⟩; have n0_ := Aside0.mk (below_step (hU HB.out) hb); clear HB; have HB := n0_; clear n0_; (try clear hb); (try clear hb2); (try clear hk); (try clear hi)) | ((with_reducible refine gate_callee (f := 21) rfl ?_); refine goesL_ (some 23) rfl rfl Try.func21 (by kernel_rfl) rfl #[.slice A2 l2.length c2, .int .i64 a3] rfl (by (try simp only [List.map_toArray, List.map_cons, List.map_nil]); first | done | rfl | (simp only [List.length_drop, List.length_take]; rfl)) ?_; (with_reducible refine (dancestudioref24_Check.calls k _ _ l2 a3 t365 _ ?side1 ?side2 A7.out).mono ?_); (case side1 => repeat (first | exact (Kd.C_below HR2.out HB.out) | (with_reducible refine Kd.C_alloc ?_ _) | (with_reducible refine Kd.C_drewN ?_ _) | (with_reducible refine Kd.C_drew ?_))); (case side2 => exact HC2.out); rintro e w17 ⟨rfl, hb⟩; refine ⟨_, rfl, ?_⟩; have n0_ := Aside0.mk (below_step (hU HB.out) hb); clear HB; have HB := n0_; clear n0_; (try clear hb); (try clear hb2); (try clear hk); (try clear hi)) | ((with_reducible refine gate_builtin (b := .append) (xs := #[.tmp 37, .tmp 38]) rfl ?_); at_builtin; refine Kd.R_append_rows k29 (w0 := w) w.heap.size rfl (.tmp 37) (.tmp 38) 22 29 (.agg #[(.int .i64 0), (.int .i64 0), (.int .i64 0), (.int .i64 0), (.int .i64 0), (.int .i64 0), (.int .i64 0)]) 56 rfl Try.underlying22 info29 rfl (by decide) (by omega) (.slice none 0 0) ([] : List (S29)) l0 _ _ _ (fun _ => True) (fun _ => False) rfl rfl ?aO ?aR (fun _ _ h => h) (fun _ h => h.elim) ?aF ?aB ?aS ?aL ?_; (case aR => repeat (first | exact (Kd.C_below HR0.out HB.out) | (with_reducible refine Kd.C_alloc ?_ _) | (with_reducible refine Kd.C_drewN ?_ _) | (with_reducible refine Kd.C_drew ?_))); (case aB => exact (hU HB.out)); (case aF => exact (fun _ _ => trivial)); (case aO => exact ((Kd.R_nil _ _ _ _ (fun _ => True)))); (case aS => exact (below_size (hU HB.out))); (case aL => have := LMc15.out; omega); intro v367 w18 ho hb hg hat; rw [← Ny366.out] at ho; have n0_ := Aside0.mk (hb); have n1_ := Aside0.mk (ho); clear HB; have HB := n0_; have HO368 := n1_; clear n0_ n1_; clear ho hb hg hat))
      go_loopg [12, 13] k (fun kq v12 v13 w' => ∃ (x12_1 : List (S29)) (x13_1 : Int), v13 = .int .i64 x13_1 ∧ Aside0 (dancestudioref24_Join.l0 kq a1 l2 x12_1 x13_1 = some (r1, r2)) ∧ Aside0 (kq ≤ k) ∧ Aside0 (Kd.R k29 29 w' w.heap.size (fun _ => True) v12 x12_1) ∧ Aside0 (Below w.heap.size w w'))
      case atStart => exact ⟨(y366), (0), (by first | rfl | (simp; done) | (simp [*]; done)), H', ⟨Nat.le_refl _⟩, ⟨by (with_reducible repeat (first | apply Kd.R_alloc | apply Kd.R_drewN | apply Kd.R_drew)); exact HO368.out⟩, ⟨hU HB.out⟩⟩
      case round =>
       clear H'
       try clear c1
       try clear c2
       try clear p2
       try clear c3
       try clear c6
       try clear c6b0
       try clear c6b1
       try clear p6
       try clear c8
       try clear c8b0
       try clear c8b1
       try clear c9
       try clear c9b0
       try clear c12
       try clear c12b0
       try clear c15
       obtain ⟨x12_1, x13_1, rfl, HA, HK1, HO_12, HB⟩ := hrel
       cases gk with
       | zero => exact absurd HA.out (by simp [dancestudioref24_Join.l0])
       | succ k1 =>
        have H := HA.out
        clear HA
        simp only [dancestudioref24_Join.l0] at H
        by_cases c19 : x13_1 < (l2.length : Int)
        ·rw [if_pos c19] at H
         have c19b0 : decide (x13_1 < (l2.length : Int)) = true := decide_eq_true c19
         clear c19
         by_cases c20 : 0 ≤ x13_1
         ·rw [if_pos c20] at H
          have c20b0 : decide (0 ≤ x13_1) = true := decide_eq_true c20
          clear c20
          by_cases c21 : x12_1.length < 2513169434916
          ·rw [if_pos c21] at H
           have LMc21 := Aside0.mk c21
           clear c21
           obtain ⟨y371, hy371⟩ : ∃ y_ : List (S29), y_ = (x12_1 ++ [(⟨(rd_T29 l2 x13_1).f0, (rd_T29 l2 x13_1).f1, wrap64 (((rd_T29 l2 x13_1).f2) + a1), (rd_T29 l2 x13_1).f3, (rd_T29 l2 x13_1).f4, (rd_T29 l2 x13_1).f5, (rd_T29 l2 x13_1).f6⟩ : S29)]) := ⟨_, rfl⟩
           replace H : (dancestudioref24_Join.l0 k1 a1 l2 y371 (wrap64 (x13_1 + 1))) = some (r1, r2) := by first | (rw [hy371]; with_reducible exact H) | (have H2_ := (Option.bind_some _ _).symm.trans H; rw [hy371]; with_reducible exact H2_) | (have H2_ := (Option.bind_some _ _).symm.trans H; with_reducible exact H2_) | with_reducible exact H | (rw [hy371]; exact H) | exact H
           have Ny371 := Aside0.mk hy371
           clear hy371
           have H' := Aside0.mk H
           clear H
           have p369 : 0 ≤ (x13_1 : Int) := of_decide_eq_true (by first | (with_reducible assumption) | assumption)
           have q369 : x13_1 < (l2.length : Int) := of_decide_eq_true (by first | (with_reducible assumption) | assumption)
           obtain ⟨ad369, e369, hx369_0, hx369_1, hx369_2, hx369_3, hx369_4, hx369_5, hx369_6⟩ := at_T29 HR2.out x13_1 p369 q369
           cases e369
           replace hx369_0 := hbC HB hx369_0
           replace hx369_1 := hbC HB hx369_1
           replace hx369_2 := hbC HB hx369_2
           replace hx369_3 := hbC HB hx369_3
           replace hx369_4 := hbC HB hx369_4
           replace hx369_5 := hbC HB hx369_5
           replace hx369_6 := hbC HB hx369_6
           replace p369 := eq_true p369
           replace q369 := eq_true q369
           go_upto_region 18 with (first | ((with_reducible refine gate_dst (N := 14) rfl ?_); refine box_event ?hg (N := 14) ?hd (cs := #[.int .i64 0, .int .i64 0, .int .i64 0, .int .i64 0, .int .i64 0, .int .i64 0, .int .i64 0]) (t := 29) ?hr ?_; (case hd => rfl); (case hg => rfl); (case hr => first | (go_simp; done) | (go_simp; rfl)); intro gb370 hg w22 hbox hb; have n0_ := Aside0.mk (Kd.R_below (Kd.R_elderB (Kd.rU HO_12.out) gb370 (Nat.le_of_eq hg.symm)) hb); have n1_ := Aside0.mk (below_step (hU HB.out) hb); have n2_ := Aside0.mk (hbox); have n3_ := Aside0.mk ((by rw [hg]; exact (below_size (hU HB.out)) : w.heap.size ≤ gb370)); have n4_ := Aside0.mk ((by rw [hg]; exact (below_size (hU HB.out)) : w.heap.size ≤ gb370)); clear HO_12; clear HB; have HO_12 := n0_; have HB := n1_; have BK370 := n2_; have GW370 := n3_; have GE370 := n4_; clear n0_ n1_ n2_ n3_ n4_; clear hb hbox hg; have hcz23_0 := blk_cell BK370.out; have hfz23_0 := blk_frozen BK370.out))
           refine name_world (fun WX hWX => ?_)
           have HWX := Aside0.mk hWX
           clear hWX
           have hBX : WX.heap[gb370]? = some (.cells #[.int .i64 ((rd_T29 l2 x13_1).f0), .int .i64 ((rd_T29 l2 x13_1).f1), .int .i64 (wrap64 (((rd_T29 l2 x13_1).f2) + a1)), .int .i64 ((rd_T29 l2 x13_1).f3), .int .i64 ((rd_T29 l2 x13_1).f4), .int .i64 ((rd_T29 l2 x13_1).f5), .int .i64 ((rd_T29 l2 x13_1).f6)] 29 (0, 0)) := by rw [HWX.out]; apply blk_put; (iterate 7 (apply blk_set)); exact BK370.out; simp only [List.setIfInBounds_toArray, List.set_cons_zero, List.set_cons_succ]
           have hcX := blk_cell hBX
           have hfX := blk_frozen hBX
           clear hBX
           go_wp2_with (first | ((with_reducible refine gate_builtin (b := .append) (xs := #[.tmp 55, .tmp 57]) rfl ?_); at_builtin; have hw_ := HWX.out; subst hw_; refine Kd.R_append k29 (w0 := w) w.heap.size rfl (.tmp 55) (.tmp 57) 22 29 (.agg #[(.int .i64 0), (.int .i64 0), (.int .i64 0), (.int .i64 0), (.int .i64 0), (.int .i64 0), (.int .i64 0)]) 56 rfl Try.underlying22 info29 rfl (by decide) (by omega) u12 x12_1 (⟨(rd_T29 l2 x13_1).f0, (rd_T29 l2 x13_1).f1, wrap64 (((rd_T29 l2 x13_1).f2) + a1), (rd_T29 l2 x13_1).f3, (rd_T29 l2 x13_1).f4, (rd_T29 l2 x13_1).f5, (rd_T29 l2 x13_1).f6⟩ : S29) [.int .i64 ((rd_T29 l2 x13_1).f0), .int .i64 ((rd_T29 l2 x13_1).f1), .int .i64 (wrap64 (((rd_T29 l2 x13_1).f2) + a1)), .int .i64 ((rd_T29 l2 x13_1).f3), .int .i64 ((rd_T29 l2 x13_1).f4), .int .i64 ((rd_T29 l2 x13_1).f5), .int .i64 ((rd_T29 l2 x13_1).f6)] (fun k_ => k_ ≠ gb370) (fun _ => False) rfl (by first | (go_simp; done) | (go_simp; rfl)) ?aP (fun _ hk => hk.elim) ?aF ?aO ?aB ?aS ?aL ?_; (case aP => exact k29_mkM _ _ _ (⟨(rd_T29 l2 x13_1).f0, (rd_T29 l2 x13_1).f1, wrap64 (((rd_T29 l2 x13_1).f2) + a1), (rd_T29 l2 x13_1).f3, (rd_T29 l2 x13_1).f4, (rd_T29 l2 x13_1).f5, (rd_T29 l2 x13_1).f6⟩ : S29)); (case aB => exact (hU HB.out)); (case aF => exact (fun k_ hk => Kd.freshB (g := gb370) (o := .cells #[.int .i64 ((rd_T29 l2 x13_1).f0), .int .i64 ((rd_T29 l2 x13_1).f1), .int .i64 (wrap64 (((rd_T29 l2 x13_1).f2) + a1)), .int .i64 ((rd_T29 l2 x13_1).f3), .int .i64 ((rd_T29 l2 x13_1).f4), .int .i64 ((rd_T29 l2 x13_1).f5), .int .i64 ((rd_T29 l2 x13_1).f6)] 29 (0, 0)) (by (with_reducible repeat (first | refine blk_drewN ?_ _ | refine blk_drew ?_ | refine blk_alloc ?_ _)); apply blk_put; (iterate 7 ((with_reducible repeat (first | refine blk_drewN ?_ _ | refine blk_drew ?_ | refine blk_alloc ?_ _)); apply blk_set)); (with_reducible repeat (first | refine blk_drewN ?_ _ | refine blk_drew ?_ | refine blk_alloc ?_ _)); exact BK370.out; simp only [List.setIfInBounds_toArray, List.set_cons_zero, List.set_cons_succ]) k_ hk)); (case aO => exact (by (with_reducible repeat (first | apply Kd.R_alloc | apply Kd.R_drewN | apply Kd.R_drew)); exact Kd.R_mono (Kd.R_far (p := ⟨gb370, 2, none⟩) (Kd.R_far (p := ⟨gb370, 6, none⟩) (Kd.R_far (p := ⟨gb370, 5, none⟩) (Kd.R_far (p := ⟨gb370, 4, none⟩) (Kd.R_far (p := ⟨gb370, 3, none⟩) (Kd.R_far (p := ⟨gb370, 2, none⟩) (Kd.R_far (p := ⟨gb370, 1, none⟩) (Kd.R_far (p := ⟨gb370, 0, none⟩) (Kd.R_mono HO_12.out (fun k_ hk => (⟨hk, hk.2⟩ : _ ∧ k_ ≠ gb370))) (fun _ hk => hk.2) (.int .i64 ((rd_T29 l2 x13_1).f0))) (fun _ hk => hk.2) (.int .i64 ((rd_T29 l2 x13_1).f1))) (fun _ hk => hk.2) (.int .i64 ((rd_T29 l2 x13_1).f2))) (fun _ hk => hk.2) (.int .i64 ((rd_T29 l2 x13_1).f3))) (fun _ hk => hk.2) (.int .i64 ((rd_T29 l2 x13_1).f4))) (fun _ hk => hk.2) (.int .i64 ((rd_T29 l2 x13_1).f5))) (fun _ hk => hk.2) (.int .i64 ((rd_T29 l2 x13_1).f6))) (fun _ hk => hk.2) (.int .i64 (wrap64 (((rd_T29 l2 x13_1).f2) + a1)))) (fun _ hk => hk.1.2))); (case aS => exact (below_size (hU HB.out))); (case aL => have := LMc21.out; omega); intro v372 w24 ho hb hg hat; rw [← Ny371.out] at ho; have n0_ := Aside0.mk (blk_grown (g := gb370) (o := .cells #[.int .i64 ((rd_T29 l2 x13_1).f0), .int .i64 ((rd_T29 l2 x13_1).f1), .int .i64 (wrap64 (((rd_T29 l2 x13_1).f2) + a1)), .int .i64 ((rd_T29 l2 x13_1).f3), .int .i64 ((rd_T29 l2 x13_1).f4), .int .i64 ((rd_T29 l2 x13_1).f5), .int .i64 ((rd_T29 l2 x13_1).f6)] 29 (0, 0)) (by (with_reducible repeat (first | refine blk_drewN ?_ _ | refine blk_drew ?_ | refine blk_alloc ?_ _)); apply blk_put; (iterate 7 ((with_reducible repeat (first | refine blk_drewN ?_ _ | refine blk_drew ?_ | refine blk_alloc ?_ _)); apply blk_set)); (with_reducible repeat (first | refine blk_drewN ?_ _ | refine blk_drew ?_ | refine blk_alloc ?_ _)); exact BK370.out; simp only [List.setIfInBounds_toArray, List.set_cons_zero, List.set_cons_succ]) hg (Kd.R_away HO_12.out (fun _ hk => hk.2))); have n1_ := Aside0.mk (hb); have n2_ := Aside0.mk (ho); clear BK370; clear HB; clear HO_12; have BK370 := n0_; have HB := n1_; have HO373 := n2_; clear n0_ n1_ n2_; clear ho hb hg hat))
           go_roundg k1
           case measure => have := HK1.out; omega
           case rel => exact ⟨(y371), (wrap64 (x13_1 + 1)), (by first | rfl | (simp; done) | (simp [*]; done)), H', ⟨by have := HK1.out; omega⟩, ⟨by (with_reducible repeat (first | apply Kd.R_alloc | apply Kd.R_drewN | apply Kd.R_drew)); exact Kd.R_mono HO373.out (fun _ hk => trivial)⟩, ⟨hU HB.out⟩⟩
          ·rw [if_neg c21] at H
           exact absurd H (by simp)
         ·rw [if_neg c20] at H
          exact absurd H (by simp)
        ·rw [if_neg c19] at H
         have c19b0 : decide (x13_1 < (l2.length : Int)) = false := decide_eq_false c19
         clear c19
         simp only [Option.some.injEq, Prod.mk.injEq] at H
         obtain ⟨rfl, rfl⟩ := H
         go_wp2
         go_ret2
         exact ⟨_, by first | rfl | (simp [errW_none, errW_some] <;> rfl) | (simp [*, errW_none, errW_some] <;> rfl), by (with_reducible repeat (first | apply Kd.R_alloc | apply Kd.R_drewN | apply Kd.R_drew)); exact HO_12.out, hU HB.out⟩
     ·rw [if_neg c15] at H
      exact absurd H (by simp)
  ·rw [if_neg c8] at H
   have c8b0 : (t365 == 0) = false := beq_eq_false_iff_ne.mpr c8
   have c8b1 : (t365 != 0) = true := bne_iff_ne.mpr c8
   simp only [Option.some.injEq, Prod.mk.injEq] at H
   obtain ⟨rfl, rfl⟩ := H
   go_enter Try.func33, Try.ntmps33
   go_wp2_with (first | ((with_reducible refine gate_callee (f := 21) rfl ?_); refine goesL_ (some 17) rfl rfl Try.func21 (by kernel_rfl) rfl #[.slice A0 l0.length c0, .int .i64 a1] rfl (by (try simp only [List.map_toArray, List.map_cons, List.map_nil]); first | done | rfl | (simp only [List.length_drop, List.length_take]; rfl)) ?_; (with_reducible refine (dancestudioref24_Check.calls k _ _ l0 a1 t364 _ ?side1 ?side2 A5.out).mono ?_); (case side1 => repeat (first | exact HR0.out | (with_reducible refine Kd.C_alloc ?_ _) | (with_reducible refine Kd.C_drewN ?_ _) | (with_reducible refine Kd.C_drew ?_))); (case side2 => exact HC0.out); rintro e w25 ⟨rfl, hb⟩; refine ⟨_, rfl, ?_⟩; have n0_ := Aside0.mk (below_step (hU HB.out) hb); clear HB; have HB := n0_; clear n0_; (try clear hb); (try clear hb2); (try clear hk); (try clear hi)) | ((with_reducible refine gate_callee (f := 21) rfl ?_); refine goesL_ (some 23) rfl rfl Try.func21 (by kernel_rfl) rfl #[.slice A2 l2.length c2, .int .i64 a3] rfl (by (try simp only [List.map_toArray, List.map_cons, List.map_nil]); first | done | rfl | (simp only [List.length_drop, List.length_take]; rfl)) ?_; (with_reducible refine (dancestudioref24_Check.calls k _ _ l2 a3 t365 _ ?side1 ?side2 A7.out).mono ?_); (case side1 => repeat (first | exact (Kd.C_below HR2.out HB.out) | (with_reducible refine Kd.C_alloc ?_ _) | (with_reducible refine Kd.C_drewN ?_ _) | (with_reducible refine Kd.C_drew ?_))); (case side2 => exact HC2.out); rintro e w26 ⟨rfl, hb⟩; refine ⟨_, rfl, ?_⟩; have n0_ := Aside0.mk (below_step (hU HB.out) hb); clear HB; have HB := n0_; clear n0_; (try clear hb); (try clear hb2); (try clear hk); (try clear hi)))
   go_ret2
   exact ⟨_, by first | rfl | (simp [errW_none, errW_some] <;> rfl) | (simp [*, errW_none, errW_some] <;> rfl), by first | exact Kd.R_nil _ _ _ _ _ | exact Kd.N_nil _ _ _ _ _ | exact Kd.V_nil _ _ _ _ _ | exact Kd.Q_nil _ _ _ _ _ | exact Kd.S_nil _ _ _ _ _, hU HB.out⟩
 ·rw [if_neg c6] at H
  have c6b0 : (t364 == 0) = false := beq_eq_false_iff_ne.mpr c6
  have c6b1 : (t364 != 0) = true := bne_iff_ne.mpr c6
  simp only [Option.some.injEq, Prod.mk.injEq] at H
  obtain ⟨rfl, rfl⟩ := H
  go_enter Try.func33, Try.ntmps33
  go_wp2_with (first | ((with_reducible refine gate_callee (f := 21) rfl ?_); refine goesL_ (some 17) rfl rfl Try.func21 (by kernel_rfl) rfl #[.slice A0 l0.length c0, .int .i64 a1] rfl (by (try simp only [List.map_toArray, List.map_cons, List.map_nil]); first | done | rfl | (simp only [List.length_drop, List.length_take]; rfl)) ?_; (with_reducible refine (dancestudioref24_Check.calls k _ _ l0 a1 t364 _ ?side1 ?side2 A5.out).mono ?_); (case side1 => repeat (first | exact HR0.out | (with_reducible refine Kd.C_alloc ?_ _) | (with_reducible refine Kd.C_drewN ?_ _) | (with_reducible refine Kd.C_drew ?_))); (case side2 => exact HC0.out); rintro e w27 ⟨rfl, hb⟩; refine ⟨_, rfl, ?_⟩; have n0_ := Aside0.mk (below_step (hU HB.out) hb); clear HB; have HB := n0_; clear n0_; (try clear hb); (try clear hb2); (try clear hk); (try clear hi)))
  go_ret2
  exact ⟨_, by first | rfl | (simp [errW_none, errW_some] <;> rfl) | (simp [*, errW_none, errW_some] <;> rfl), by first | exact Kd.R_nil _ _ _ _ _ | exact Kd.N_nil _ _ _ _ _ | exact Kd.V_nil _ _ _ _ _ | exact Kd.Q_nil _ _ _ _ _ | exact Kd.S_nil _ _ _ _ _, hU HB.out⟩

end Go.Proofs.Ytdilndbanhianaa.P

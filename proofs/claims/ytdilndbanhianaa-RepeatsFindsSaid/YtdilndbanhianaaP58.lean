-- Written by a program of this session (myprint.py over the kit's print): the Go functions of the seat as Lean functions, and what their calls do.
import Derived.Test.YtdilndbanhianaaVMA
import Derived.Test.YtdilndbanhianaaVMB
import Derived.Test.YtdilndbanhianaaP46
import Derived.Test.YtdilndbanhianaaP57
namespace Go.Proofs.Ytdilndbanhianaa.P
open Go.RowKit Go.Proofs.YtdilndbanhianaaW.PrintWords Go.Proofs.YtdilndbanhianaaW.PrintLast Go.Proofs.YtdilndbanhianaaW.PrintMore
attribute [local go_sem] max2_int min2_int max_two min_two max_three min_three max_four min_four   -- for this text's walks alone
set_option linter.unusedVariables false
set_option linter.unusedSimpArgs false

/-! ### dancestudioref26_Find: function 49 -/
mutual
def dancestudioref26_Find.j0 : Nat → List (S29) → Int → Int → Bool → Option ((List (S29)) × Int × (List (S61)) × Int)
 | 0, _, _, _, _ => none
 | k + 1, x0, x1, x2, x29 => if x29 = true then (some (([] : List (S29)), 0, ([] : List (S61)), 1)) else (dancestudioref26_Find.l0 k x0 x1 x2 (([] : List (S88))) (([] : List (S61))) 0 0)
def dancestudioref26_Find.l0 : Nat → List (S29) → Int → Int → List (S88) → List (S61) → Int → Int → Option ((List (S29)) × Int × (List (S61)) × Int)
 | 0, _, _, _, _, _, _, _ => none
 | k + 1, x0, x1, x2, x11, x12, x13, x14 => if x14 < x1 then (if (x12.length : Int) < 16 then ((dancestudioref26_fit.f k x0 x1 x2 x14).bind fun bt949 => (if bt949.1 = 0 then (if x11.length < 5864062014805 then (dancestudioref26_Find.l0 k x0 x1 x2 (x11 ++ [(⟨x14, wrap64 (x14 + (mn x2 (wrap64 (x1 - x14)))), 1⟩ : S88)]) x12 (wrap64 (x13 + (mn x2 (wrap64 (x1 - x14))))) (wrap64 (x14 + (wrap64 ((mn x2 (wrap64 (x1 - x14))) * 1))))) else (none)) else (if x12.length < 5864062014805 then (if x11.length < 5864062014805 then (dancestudioref26_Find.l0 k x0 x1 x2 (x11 ++ [(⟨x14, wrap64 (x14 + bt949.1), 1⟩ : S88)]) (x12 ++ [(⟨(⟨x13, wrap64 (x13 + bt949.1)⟩ : S45), bt949.2⟩ : S61)]) (wrap64 (x13 + bt949.1)) (wrap64 (x14 + (wrap64 (bt949.1 * bt949.2))))) else (none)) else (none)))) else (if 0 = 0 then (if x11.length < 5864062014805 then (dancestudioref26_Find.l0 k x0 x1 x2 (x11 ++ [(⟨x14, wrap64 (x14 + (mn x2 (wrap64 (x1 - x14)))), 1⟩ : S88)]) x12 (wrap64 (x13 + (mn x2 (wrap64 (x1 - x14))))) (wrap64 (x14 + (wrap64 ((mn x2 (wrap64 (x1 - x14))) * 1))))) else (none)) else (if x12.length < 5864062014805 then (if x11.length < 5864062014805 then (dancestudioref26_Find.l0 k x0 x1 x2 (x11 ++ [(⟨x14, wrap64 (x14 + 0), 1⟩ : S88)]) (x12 ++ [(⟨(⟨x13, wrap64 (x13 + 0)⟩ : S45), 0⟩ : S61)]) (wrap64 (x13 + 0)) (wrap64 (x14 + (0 * 0)))) else (none)) else (none)))) else ((dancestudioref26_performed.f k x0 x11).bind fun t946 => (some (t946, x13, x12, 0)))
end
def dancestudioref26_Find.f (k : Nat) (l0 : List (S29)) (a1 : Int) (a2 : Int) : Option ((List (S29)) × Int × (List (S61)) × Int) := (dancestudioref24_Check.f k l0 a1).bind fun t939 => (if t939 = 0 then (if a2 < 1 then (dancestudioref26_Find.j0 k l0 a1 a2 true) else (dancestudioref26_Find.j0 k l0 a1 a2 (decide (a2 > a1)))) else (some (([] : List (S29)), 0, ([] : List (S61)), t939)))
theorem dancestudioref26_Find.mono_l : ∀ k, (∀ y0 y1 y2 y3, LeO (dancestudioref26_Find.j0 k y0 y1 y2 y3) (dancestudioref26_Find.j0 (k + 1) y0 y1 y2 y3)) ∧ (∀ y0 y1 y2 y3 y4 y5 y6, LeO (dancestudioref26_Find.l0 k y0 y1 y2 y3 y4 y5 y6) (dancestudioref26_Find.l0 (k + 1) y0 y1 y2 y3 y4 y5 y6))
 | 0 => ⟨fun _ _ _ _ r h => by simp [dancestudioref26_Find.j0] at h, fun _ _ _ _ _ _ _ r h => by simp [dancestudioref26_Find.l0] at h⟩
 | k + 1 => by
  obtain ⟨ih0, ih1⟩ := dancestudioref26_Find.mono_l k
  refine ⟨?_, ?_⟩
  ·intro y0 y1 y2 y3
   unfold dancestudioref26_Find.j0
   repeat' first
   | (with_reducible exact ih0 _ _ _ _)
   | (with_reducible exact ih1 _ _ _ _ _ _ _)
   | (with_reducible exact dancestudioref24_Check.mono _ _ _)
   | (with_reducible exact dancestudioref26_fit.mono _ _ _ _ _)
   | (with_reducible exact dancestudioref26_performed.mono _ _ _)
   | (with_reducible exact LeO.refl _)
   | (with_reducible exact LeO.none _)
   | (with_reducible refine LeO.ite ?_ ?_)
   | (with_reducible refine LeO.bind ?_ (fun _ => ?_))
   | exact ih0 _ _ _ _
   | exact ih1 _ _ _ _ _ _ _
   | exact dancestudioref24_Check.mono _ _ _
   | exact dancestudioref26_fit.mono _ _ _ _ _
   | exact dancestudioref26_performed.mono _ _ _
   | exact LeO.none _
   | refine LeO.ite ?_ ?_
   | refine LeO.bind ?_ (fun _ => ?_)
  ·intro y0 y1 y2 y3 y4 y5 y6
   unfold dancestudioref26_Find.l0
   repeat' first
   | (with_reducible exact ih0 _ _ _ _)
   | (with_reducible exact ih1 _ _ _ _ _ _ _)
   | (with_reducible exact dancestudioref24_Check.mono _ _ _)
   | (with_reducible exact dancestudioref26_fit.mono _ _ _ _ _)
   | (with_reducible exact dancestudioref26_performed.mono _ _ _)
   | (with_reducible exact LeO.refl _)
   | (with_reducible exact LeO.none _)
   | (with_reducible refine LeO.ite ?_ ?_)
   | (with_reducible refine LeO.bind ?_ (fun _ => ?_))
   | exact ih0 _ _ _ _
   | exact ih1 _ _ _ _ _ _ _
   | exact dancestudioref24_Check.mono _ _ _
   | exact dancestudioref26_fit.mono _ _ _ _ _
   | exact dancestudioref26_performed.mono _ _ _
   | exact LeO.none _
   | refine LeO.ite ?_ ?_
   | refine LeO.bind ?_ (fun _ => ?_)
theorem dancestudioref26_Find.mono : ∀ a0 a1 a2 k, LeO (dancestudioref26_Find.f k a0 a1 a2) (dancestudioref26_Find.f (k + 1) a0 a1 a2) := by
 intro a0 a1 a2 k
 obtain ⟨ih0, ih1⟩ := dancestudioref26_Find.mono_l k
 unfold dancestudioref26_Find.f
 repeat' first
   | (with_reducible exact ih0 _ _ _ _)
   | (with_reducible exact ih1 _ _ _ _ _ _ _)
   | (with_reducible exact dancestudioref24_Check.mono _ _ _)
   | (with_reducible exact dancestudioref26_fit.mono _ _ _ _ _)
   | (with_reducible exact dancestudioref26_performed.mono _ _ _)
   | (with_reducible exact LeO.refl _)
   | (with_reducible exact LeO.none _)
   | (with_reducible refine LeO.ite ?_ ?_)
   | (with_reducible refine LeO.bind ?_ (fun _ => ?_))
   | exact ih0 _ _ _ _
   | exact ih1 _ _ _ _ _ _ _
   | exact dancestudioref24_Check.mono _ _ _
   | exact dancestudioref26_fit.mono _ _ _ _ _
   | exact dancestudioref26_performed.mono _ _ _
   | exact LeO.none _
   | refine LeO.ite ?_ ?_
   | refine LeO.bind ?_ (fun _ => ?_)
set_option maxHeartbeats 8000000 in
set_option maxRecDepth 100000 in
theorem dancestudioref26_Find.calls (k : Nat) (A0 : Option Addr) (c0 : Nat) (l0 : List (S29)) (a1 : Int) (a2 : Int) (r1 : List (S29)) (r2 : Int) (r3 : List (S61)) (r4 : Int) (w : World) (hr0 : Kd.C k29 w A0 l0.length l0) (hc0 : l0.length ≤ c0) (h : dancestudioref26_Find.f k l0 a1 a2 = some (r1, r2, r3, r4)) :
  Calls Try.prog 49 #[.slice A0 l0.length c0, .int .i64 a1, .int .i64 a2] w fun e w' => ∃ v0_ v2_ : Value, e = .returned (.tuple #[v0_, .int .i64 r2, v2_, .int .i64 r4]) ∧ Kd.R k29 29 w' w.heap.size (fun _ => True) v0_ r1 ∧ Kd.R k61 61 w' w.heap.size (fun _ => True) v2_ r3 ∧ Below w.heap.size w w' := by
 have hu45 := Try.underlying45
 have hu61 := Try.underlying61
 have hu88 := Try.underlying88
 have HR0 := Aside0.mk hr0
 have HC0 := Aside0.mk hc0
 clear hr0 hc0
 have HB := Aside0.mk (Below.refl w.heap.size w)
 have H : ((dancestudioref24_Check.f k l0 a1).bind fun t939 => (if t939 = 0 then (if a2 < 1 then (dancestudioref26_Find.j0 k l0 a1 a2 true) else (dancestudioref26_Find.j0 k l0 a1 a2 (decide (a2 > a1)))) else (some (([] : List (S29)), 0, ([] : List (S61)), t939)))) = some (r1, r2, r3, r4) := h
 clear h
 replace H := Option.bind_eq_some_iff.mp H
 obtain ⟨t939, A40, H⟩ := H
 try dsimp only at H
 have A4 := Aside0.mk A40
 clear A40
 by_cases c5 : t939 = 0
 ·rw [if_pos c5] at H
  have c5b0 : (t939 == 0) = true := beq_iff_eq.mpr c5
  have c5b1 : (t939 != 0) = false := bne_eq_false_iff_eq.mpr c5
  clear c5
  have HC6 := Aside0.mk H
  clear H
  go_enter Try.func49, Try.ntmps49
  go_upto_region 4 with (first | ((with_reducible refine gate_callee (f := 21) rfl ?_); refine goesL_ (some 19) rfl rfl Try.func21 (by kernel_rfl) rfl #[.slice A0 l0.length c0, .int .i64 a1] rfl (by (try simp only [List.map_toArray, List.map_cons, List.map_nil]); first | done | rfl | (simp only [List.length_drop, List.length_take]; rfl)) ?_; (with_reducible refine (dancestudioref24_Check.calls k _ _ l0 a1 t939 _ ?side1 ?side2 A4.out).mono ?_); (case side1 => repeat (first | exact HR0.out | (with_reducible refine Kd.C_alloc ?_ _) | (with_reducible refine Kd.C_drewN ?_ _) | (with_reducible refine Kd.C_drew ?_))); (case side2 => exact HC0.out); rintro e w7 ⟨rfl, hb⟩; refine ⟨_, rfl, ?_⟩; have n0_ := Aside0.mk (below_step (hU HB.out) hb); clear HB; have HB := n0_; clear n0_; (try clear hb); (try clear hb2); (try clear hk); (try clear hi)))
  (try simp only [Act.put, List.setIfInBounds_toArray, List.set_cons_zero, List.set_cons_succ])
  go_cut [29] (fun v29 wc => ∃ (kq : Nat) (x29_5 : Bool), v29 = .bool x29_5 ∧ Aside0 (dancestudioref26_Find.j0 kq l0 a1 a2 x29_5 = some (r1, r2, r3, r4)) ∧ Aside0 (kq ≤ k) ∧ Aside0 (Below w.heap.size w wc))
  case first =>
   have H := HC6.out
   clear HC6
   by_cases c8 : a2 < 1
   ·rw [if_pos c8] at H
    have c8b0 : decide (a2 < 1) = true := decide_eq_true c8
    clear c8
    (first | rw [c8b0] | (simp only [i64_w, i32_w]; rw [c8b0]) | skip)
    have H' := Aside0.mk H
    clear H
    go_wp2
    go_meet
    case rel => exact ⟨_, (true), (by first | rfl | (simp; done) | (simp [*]; done)), H', ⟨by first | omega | exact Nat.le_refl _⟩, ⟨hU HB.out⟩⟩
   ·rw [if_neg c8] at H
    have c8b0 : decide (a2 < 1) = false := decide_eq_false c8
    clear c8
    (first | rw [c8b0] | (simp only [i64_w, i32_w]; rw [c8b0]) | skip)
    have H' := Aside0.mk H
    clear H
    go_wp2
    go_meet
    case rel => exact ⟨_, (decide (a2 > a1)), (by first | rfl | (simp; done) | (simp [*]; done)), H', ⟨by first | omega | exact Nat.le_refl _⟩, ⟨hU HB.out⟩⟩
  case rest =>
   clear HC6
   try clear c2
   try clear p2
   try clear c4
   try clear c5
   try clear c5b0
   try clear c5b1
   try clear c8
   try clear c8b0
   obtain ⟨kq, x29_5, rfl, HA, HJ5, HB⟩ := hcut
   cases kq with
   | zero => exact absurd HA.out (by simp [dancestudioref26_Find.j0])
   | succ kj5 =>
    have H := HA.out
    clear HA
    simp only [dancestudioref26_Find.j0] at H
    by_cases c9 : x29_5 = true
    ·subst c9
     have H1 : (some (([] : List (S29)), 0, ([] : List (S61)), 1)) = some (r1, r2, r3, r4) := by rw [if_pos rfl] at H; exact H
     clear H
     have H := H1
     clear H1
     simp only [Option.some.injEq, Prod.mk.injEq] at H
     obtain ⟨rfl, rfl, rfl, rfl⟩ := H
     go_wp2
     refine bodyPost_ret (results_list (rs := [.tmp 6, .tmp 7, .tmp 8, .tmp 9]) rfl (by simp) (.tmp (.tmp (.tmp (.tmp .nil))))) rfl ?_
     exact ⟨_, _, by first | rfl | (simp [errW_none, errW_some] <;> rfl) | (simp [*, errW_none, errW_some] <;> rfl), by first | exact Kd.R_nil _ _ _ _ _ | exact Kd.N_nil _ _ _ _ _ | exact Kd.V_nil _ _ _ _ _ | exact Kd.Q_nil _ _ _ _ _ | exact Kd.S_nil _ _ _ _ _, by first | exact Kd.R_nil _ _ _ _ _ | exact Kd.N_nil _ _ _ _ _ | exact Kd.V_nil _ _ _ _ _ | exact Kd.Q_nil _ _ _ _ _ | exact Kd.S_nil _ _ _ _ _, hU HB.out⟩
    ·replace c9 := Bool.eq_false_iff.mpr c9
     subst c9
     have H1 : (dancestudioref26_Find.l0 kj5 l0 a1 a2 (([] : List (S88))) (([] : List (S61))) 0 0) = some (r1, r2, r3, r4) := by rw [if_neg (show ¬ (false = true) by decide)] at H; exact H
     clear H
     have H := H1
     clear H1
     obtain ⟨y940, hy940⟩ : ∃ y_ : List (S88), y_ = (([] : List (S88))) := ⟨_, rfl⟩
     replace H : (dancestudioref26_Find.l0 kj5 l0 a1 a2 y940 (([] : List (S61))) 0 0) = some (r1, r2, r3, r4) := by first | (rw [hy940]; with_reducible exact H) | (have H2_ := (Option.bind_some _ _).symm.trans H; rw [hy940]; with_reducible exact H2_) | (have H2_ := (Option.bind_some _ _).symm.trans H; with_reducible exact H2_) | with_reducible exact H | (rw [hy940]; exact H) | exact H
     have Ny940 := Aside0.mk hy940
     clear hy940
     obtain ⟨y943, hy943⟩ : ∃ y_ : List (S61), y_ = (([] : List (S61))) := ⟨_, rfl⟩
     replace H : (dancestudioref26_Find.l0 kj5 l0 a1 a2 y940 y943 0 0) = some (r1, r2, r3, r4) := by first | (rw [hy943]; with_reducible exact H) | (have H2_ := (Option.bind_some _ _).symm.trans H; rw [hy943]; with_reducible exact H2_) | (have H2_ := (Option.bind_some _ _).symm.trans H; with_reducible exact H2_) | with_reducible exact H | (rw [hy943]; exact H) | exact H
     have Ny943 := Aside0.mk hy943
     clear hy943
     have H' := Aside0.mk H
     clear H
     go_wp2_with (first | ((with_reducible refine gate_dst (N := 30) rfl ?_); refine Kd.R_lit k88 _ 88 ?hg (N := 30) ?hd (xs := ([] : List (S88))) (inner := []) (ok := fun _ => True) (okp := fun _ => True) ?hr ?hp (fun _ hk => hk) trivial (Below.refl _ _) (Nat.le_refl _) (by simp) ?_; (case hd => rfl); (case hg => rfl); (case hr => first | (go_simp; done) | (go_simp; rfl)); (case hp => exact (Reps.none _ _)); intro v941 w10 ho11 hb hg_ hnew_; clear hg_ hnew_; (first | rw [← Ny940.out] at ho11 | (simp only [Int.reduceToNat] at ho11; rw [← Ny940.out] at ho11)); have n0_ := Aside0.mk (Kd.R_lower ho11 (below_size (hU HB.out))); have n1_ := Aside0.mk (below_step (hU HB.out) hb); clear HB; have HO942 := n0_; have HB := n1_; clear n0_ n1_; clear hb ho11) | ((with_reducible refine gate_dst (N := 31) rfl ?_); refine Kd.R_lit k61 _ 61 ?hg (N := 31) ?hd (xs := ([] : List (S61))) (inner := []) (ok := fun _ => True) (okp := fun _ => True) ?hr ?hp (fun _ hk => hk) trivial (Below.refl _ _) (Nat.le_refl _) (by simp) ?_; (case hd => rfl); (case hg => rfl); (case hr => first | (go_simp; done) | (go_simp; rfl)); (case hp => exact (Reps.none _ _)); intro v944 w12 ho13 hb hg_ hnew_; clear hg_ hnew_; (first | rw [← Ny943.out] at ho13 | (simp only [Int.reduceToNat] at ho13; rw [← Ny943.out] at ho13)); have n0_ := Aside0.mk (Kd.R_below (Kd.rU HO942.out) hb); have n1_ := Aside0.mk (Kd.R_lower ho13 (below_size (hU HB.out))); have n2_ := Aside0.mk (below_step (hU HB.out) hb); clear HO942; clear HB; have HO942 := n0_; have HO945 := n1_; have HB := n2_; clear n0_ n1_ n2_; clear hb ho13))
     go_loopg [11, 12, 13, 14] kj5 (fun kq v11 v12 v13 v14 w' => ∃ (x11_2 : List (S88)) (x12_2 : List (S61)) (x13_2 : Int) (x14_2 : Int), v13 = .int .i64 x13_2 ∧ v14 = .int .i64 x14_2 ∧ Aside0 (dancestudioref26_Find.l0 kq l0 a1 a2 x11_2 x12_2 x13_2 x14_2 = some (r1, r2, r3, r4)) ∧ Aside0 (kq ≤ kj5) ∧ Aside0 (Kd.R k88 88 w' w.heap.size (fun _ => True) v11 x11_2) ∧ Aside0 (Kd.R k61 61 w' w.heap.size (fun _ => True) v12 x12_2) ∧ Aside0 (Below w.heap.size w w'))
     case atStart => exact ⟨(y940), (y943), (0), (0), (by first | rfl | (simp; done) | (simp [*]; done)), (by first | rfl | (simp; done) | (simp [*]; done)), H', ⟨Nat.le_refl _⟩, ⟨by (with_reducible repeat (first | apply Kd.R_alloc | apply Kd.R_drewN | apply Kd.R_drew)); exact HO942.out⟩, ⟨by (with_reducible repeat (first | apply Kd.R_alloc | apply Kd.R_drewN | apply Kd.R_drew)); exact HO945.out⟩, ⟨hU HB.out⟩⟩
     case round =>
      clear H'
      try clear c2
      try clear p2
      try clear c4
      try clear c5
      try clear c5b0
      try clear c5b1
      try clear c8
      try clear c8b0
      try clear c9
      try clear p2
      obtain ⟨x11_2, x12_2, x13_2, x14_2, rfl, rfl, HA, HK2, HO_11, HO_12, HB⟩ := hrel
      cases gk with
      | zero => exact absurd HA.out (by simp [dancestudioref26_Find.l0])
      | succ k2 =>
       have H := HA.out
       clear HA
       simp only [dancestudioref26_Find.l0] at H
       by_cases c14 : x14_2 < a1
       ·rw [if_pos c14] at H
        have c14b0 : decide (x14_2 < a1) = true := decide_eq_true c14
        clear c14
        by_cases c15 : (x12_2.length : Int) < 16
        ·rw [if_pos c15] at H
         have c15b0 : decide ((x12_2.length : Int) < 16) = true := decide_eq_true c15
         have c15b1 : decide (x12_2.length < 16) = true := decide_eq_true (by omega)
         clear c15
         replace H := Option.bind_eq_some_iff.mp H
         obtain ⟨⟨t949, t950⟩, A160, H⟩ := H
         try dsimp only at H
         have A16 := Aside0.mk A160
         clear A160
         by_cases c17 : t949 = 0
         ·rw [if_pos c17] at H
          have c17b0 : (t949 == 0) = true := beq_iff_eq.mpr c17
          have c17b1 : (t949 != 0) = false := bne_eq_false_iff_eq.mpr c17
          clear c17
          obtain ⟨ji18, hji18⟩ : ∃ j_ : Int, (mn a2 (wrap64 (a1 - x14_2))) = j_ := ⟨_, rfl⟩
          replace H : (if x11_2.length < 5864062014805 then (dancestudioref26_Find.l0 k2 l0 a1 a2 (x11_2 ++ [(⟨x14_2, wrap64 (x14_2 + (ji18)), 1⟩ : S88)]) x12_2 (wrap64 (x13_2 + (ji18))) (wrap64 (x14_2 + (wrap64 ((ji18) * 1))))) else (none)) = some (r1, r2, r3, r4) := by first | (rw [hji18] at H; exact H) | (simp only [hji18] at H ⊢; exact H)
          (try rw [hji18] at A16)
          have hji18_ : (if (wrap64 (a1 - x14_2)) < a2 then (wrap64 (a1 - x14_2)) else a2) = ji18 := hji18
          by_cases c19 : x11_2.length < 5864062014805
          ·rw [if_pos c19] at H
           have LMc19 := Aside0.mk c19
           clear c19
           obtain ⟨y951, hy951⟩ : ∃ y_ : List (S88), y_ = (x11_2 ++ [(⟨x14_2, wrap64 (x14_2 + (ji18)), 1⟩ : S88)]) := ⟨_, rfl⟩
           replace H : (dancestudioref26_Find.l0 k2 l0 a1 a2 y951 x12_2 (wrap64 (x13_2 + (ji18))) (wrap64 (x14_2 + (wrap64 ((ji18) * 1))))) = some (r1, r2, r3, r4) := by first | (rw [hy951]; with_reducible exact H) | (have H2_ := (Option.bind_some _ _).symm.trans H; rw [hy951]; with_reducible exact H2_) | (have H2_ := (Option.bind_some _ _).symm.trans H; with_reducible exact H2_) | with_reducible exact H | (rw [hy951]; exact H) | exact H
           have Ny951 := Aside0.mk hy951
           clear hy951
           have H' := Aside0.mk H
           clear H
           obtain ⟨Ao20, co20, eo20⟩ := Kd.R_slice HO_12.out
           subst eo20
           go_wp2_with (first | ((with_reducible refine gate_callee (f := 80) rfl ?_); refine goesL_ (some 43) rfl rfl Try.func80 (by kernel_rfl) rfl #[.slice A0 l0.length c0, .int .i64 a1, .int .i64 a2, .int .i64 x14_2] rfl (by (try simp only [List.map_toArray, List.map_cons, List.map_nil]); first | done | rfl | (simp only [List.length_drop, List.length_take]; rfl)) ?_; (with_reducible refine (dancestudioref26_fit.calls k2 _ _ l0 a1 a2 x14_2 t949 t950 _ ?side1 ?side2 A16.out).mono ?_); (case side1 => repeat (first | exact (Kd.C_below HR0.out HB.out) | (with_reducible refine Kd.C_alloc ?_ _) | (with_reducible refine Kd.C_drewN ?_ _) | (with_reducible refine Kd.C_drew ?_))); (case side2 => exact HC0.out); rintro e w21 ⟨rfl, hb⟩; refine ⟨_, rfl, ?_⟩; have n0_ := Aside0.mk (Kd.R_below (Kd.rU HO_11.out) hb); have n1_ := Aside0.mk (Kd.R_below (Kd.rU HO_12.out) hb); have n2_ := Aside0.mk (below_step (hU HB.out) hb); clear HO_11; clear HO_12; clear HB; have HO_11 := n0_; have HO_12 := n1_; have HB := n2_; clear n0_ n1_ n2_; (try clear hb); (try clear hb2); (try clear hk); (try clear hi)) | ((with_reducible refine gate_builtin (b := .append) (xs := #[.tmp 63, .tmp 69]) rfl ?_); at_builtin; refine Kd.R_append k88 (w0 := w) w.heap.size rfl (.tmp 63) (.tmp 69) 81 88 (.agg #[(.int .i64 0), (.int .i64 0), (.int .i64 0)]) 24 rfl Try.underlying81 info88 rfl (by decide) (by omega) u11 x11_2 (⟨x14_2, wrap64 (x14_2 + (ji18)), 1⟩ : S88) [.int .i64 x14_2, .int .i64 (wrap64 (x14_2 + (ji18))), .int .i64 1] (fun _ => True) (fun _ => False) rfl rfl ?aP (fun _ hk => hk.elim) ?aF ?aO ?aB ?aS ?aL ?_; (case aP => exact k88_mkM _ _ _ (⟨x14_2, wrap64 (x14_2 + (ji18)), 1⟩ : S88)); (case aB => exact (hU HB.out)); (case aF => exact (fun _ _ => trivial)); (case aO => exact (Kd.rU HO_11.out)); (case aS => exact (below_size (hU HB.out))); (case aL => have := LMc19.out; omega); intro v952 w22 ho hb hg hat; rw [← Ny951.out] at ho; have n0_ := Aside0.mk (Kd.R_over' (Kd.rU HO_12.out) (Kd.R_typed (Kd.rU HO_11.out)) (by decide) hg); have n1_ := Aside0.mk (hb); have n2_ := Aside0.mk (ho); clear HO_12; clear HB; clear HO_11; have HO_12 := n0_; have HB := n1_; have HO953 := n2_; clear n0_ n1_ n2_; clear ho hb hg hat))
           go_roundg k2
           case measure => have := HJ5.out; have := HK2.out; omega
           case rel => exact ⟨(y951), (x12_2), (wrap64 (x13_2 + (ji18))), (wrap64 (x14_2 + (wrap64 ((ji18) * 1)))), (by first | rfl | (simp; done) | (simp only [← hji18] <;> (first | rfl | simp)) | (simp [*]; done)), (by first | rfl | (simp; done) | (simp only [← hji18] <;> (first | rfl | simp)) | (simp [*]; done)), H', ⟨by have := HJ5.out; have := HK2.out; omega⟩, ⟨by (with_reducible repeat (first | apply Kd.R_alloc | apply Kd.R_drewN | apply Kd.R_drew)); exact HO953.out⟩, ⟨by (with_reducible repeat (first | apply Kd.R_alloc | apply Kd.R_drewN | apply Kd.R_drew)); exact HO_12.out⟩, ⟨hU HB.out⟩⟩
          ·rw [if_neg c19] at H
           exact absurd H (by simp)
         ·rw [if_neg c17] at H
          have c17b0 : (t949 == 0) = false := beq_eq_false_iff_ne.mpr c17
          have c17b1 : (t949 != 0) = true := bne_iff_ne.mpr c17
          by_cases c23 : x12_2.length < 5864062014805
          ·rw [if_pos c23] at H
           have LMc23 := Aside0.mk c23
           clear c23
           obtain ⟨y954, hy954⟩ : ∃ y_ : List (S61), y_ = (x12_2 ++ [(⟨(⟨x13_2, wrap64 (x13_2 + t949)⟩ : S45), t950⟩ : S61)]) := ⟨_, rfl⟩
           replace H : (if x11_2.length < 5864062014805 then (dancestudioref26_Find.l0 k2 l0 a1 a2 (x11_2 ++ [(⟨x14_2, wrap64 (x14_2 + t949), 1⟩ : S88)]) y954 (wrap64 (x13_2 + t949)) (wrap64 (x14_2 + (wrap64 (t949 * t950))))) else (none)) = some (r1, r2, r3, r4) := by first | (rw [hy954]; with_reducible exact H) | (have H2_ := (Option.bind_some _ _).symm.trans H; rw [hy954]; with_reducible exact H2_) | (have H2_ := (Option.bind_some _ _).symm.trans H; with_reducible exact H2_) | with_reducible exact H | (rw [hy954]; exact H) | exact H
           have Ny954 := Aside0.mk hy954
           clear hy954
           by_cases c24 : x11_2.length < 5864062014805
           ·rw [if_pos c24] at H
            have LMc24 := Aside0.mk c24
            clear c24
            obtain ⟨y957, hy957⟩ : ∃ y_ : List (S88), y_ = (x11_2 ++ [(⟨x14_2, wrap64 (x14_2 + t949), 1⟩ : S88)]) := ⟨_, rfl⟩
            replace H : (dancestudioref26_Find.l0 k2 l0 a1 a2 y957 y954 (wrap64 (x13_2 + t949)) (wrap64 (x14_2 + (wrap64 (t949 * t950))))) = some (r1, r2, r3, r4) := by first | (rw [hy957]; with_reducible exact H) | (have H2_ := (Option.bind_some _ _).symm.trans H; rw [hy957]; with_reducible exact H2_) | (have H2_ := (Option.bind_some _ _).symm.trans H; with_reducible exact H2_) | with_reducible exact H | (rw [hy957]; exact H) | exact H
            have Ny957 := Aside0.mk hy957
            clear hy957
            have H' := Aside0.mk H
            clear H
            obtain ⟨Ao25, co25, eo25⟩ := Kd.R_slice HO_12.out
            subst eo25
            go_wp2_with (first | ((with_reducible refine gate_callee (f := 80) rfl ?_); refine goesL_ (some 43) rfl rfl Try.func80 (by kernel_rfl) rfl #[.slice A0 l0.length c0, .int .i64 a1, .int .i64 a2, .int .i64 x14_2] rfl (by (try simp only [List.map_toArray, List.map_cons, List.map_nil]); first | done | rfl | (simp only [List.length_drop, List.length_take]; rfl)) ?_; (with_reducible refine (dancestudioref26_fit.calls k2 _ _ l0 a1 a2 x14_2 t949 t950 _ ?side1 ?side2 A16.out).mono ?_); (case side1 => repeat (first | exact (Kd.C_below HR0.out HB.out) | (with_reducible refine Kd.C_alloc ?_ _) | (with_reducible refine Kd.C_drewN ?_ _) | (with_reducible refine Kd.C_drew ?_))); (case side2 => exact HC0.out); rintro e w26 ⟨rfl, hb⟩; refine ⟨_, rfl, ?_⟩; have n0_ := Aside0.mk (Kd.R_below (Kd.rU HO_11.out) hb); have n1_ := Aside0.mk (Kd.R_below (Kd.rU HO_12.out) hb); have n2_ := Aside0.mk (below_step (hU HB.out) hb); clear HO_11; clear HO_12; clear HB; have HO_11 := n0_; have HO_12 := n1_; have HB := n2_; clear n0_ n1_ n2_; (try clear hb); (try clear hb2); (try clear hk); (try clear hi)) | ((with_reducible refine gate_builtin (b := .append) (xs := #[.tmp 53, .tmp 61]) rfl ?_); at_builtin; refine Kd.R_append k61 (w0 := w) w.heap.size rfl (.tmp 53) (.tmp 61) 49 61 (.agg #[(.int .i64 0), (.int .i64 0), (.int .i64 0)]) 24 rfl Try.underlying49 info61 rfl (by decide) (by omega) (.slice Ao25 x12_2.length co25) x12_2 (⟨(⟨x13_2, wrap64 (x13_2 + t949)⟩ : S45), t950⟩ : S61) [.int .i64 x13_2, .int .i64 (wrap64 (x13_2 + t949)), .int .i64 t950] (fun _ => True) (fun _ => False) rfl rfl ?aP (fun _ hk => hk.elim) ?aF ?aO ?aB ?aS ?aL ?_; (case aP => exact k61_mkM _ _ _ (⟨(⟨x13_2, wrap64 (x13_2 + t949)⟩ : S45), t950⟩ : S61)); (case aB => exact (hU HB.out)); (case aF => exact (fun _ _ => trivial)); (case aO => exact (Kd.rU HO_12.out)); (case aS => exact (below_size (hU HB.out))); (case aL => have := LMc23.out; omega); intro v955 w27 ho hb hg hat; rw [← Ny954.out] at ho; have n0_ := Aside0.mk (Kd.R_over' (Kd.rU HO_11.out) (Kd.R_typed (Kd.rU HO_12.out)) (by decide) hg); have n1_ := Aside0.mk (hb); have n2_ := Aside0.mk (ho); clear HO_11; clear HB; clear HO_12; have HO_11 := n0_; have HB := n1_; have HO956 := n2_; clear n0_ n1_ n2_; clear ho hb hg hat) | ((with_reducible refine gate_builtin (b := .append) (xs := #[.tmp 63, .tmp 69]) rfl ?_); at_builtin; refine Kd.R_append k88 (w0 := w) w.heap.size rfl (.tmp 63) (.tmp 69) 81 88 (.agg #[(.int .i64 0), (.int .i64 0), (.int .i64 0)]) 24 rfl Try.underlying81 info88 rfl (by decide) (by omega) u11 x11_2 (⟨x14_2, wrap64 (x14_2 + t949), 1⟩ : S88) [.int .i64 x14_2, .int .i64 (wrap64 (x14_2 + t949)), .int .i64 1] (fun _ => True) (fun _ => False) rfl rfl ?aP (fun _ hk => hk.elim) ?aF ?aO ?aB ?aS ?aL ?_; (case aP => exact k88_mkM _ _ _ (⟨x14_2, wrap64 (x14_2 + t949), 1⟩ : S88)); (case aB => exact (hU HB.out)); (case aF => exact (fun _ _ => trivial)); (case aO => exact (Kd.rU HO_11.out)); (case aS => exact (below_size (hU HB.out))); (case aL => have := LMc24.out; omega); intro v958 w28 ho hb hg hat; rw [← Ny957.out] at ho; have n0_ := Aside0.mk (Kd.R_over' (Kd.rU HO956.out) (Kd.R_typed (Kd.rU HO_11.out)) (by decide) hg); have n1_ := Aside0.mk (hb); have n2_ := Aside0.mk (ho); clear HO956; clear HB; clear HO_11; have HO956 := n0_; have HB := n1_; have HO959 := n2_; clear n0_ n1_ n2_; clear ho hb hg hat))
            go_roundg k2
            case measure => have := HJ5.out; have := HK2.out; omega
            case rel => exact ⟨(y957), (y954), (wrap64 (x13_2 + t949)), (wrap64 (x14_2 + (wrap64 (t949 * t950)))), (by first | rfl | (simp; done) | (simp [*]; done)), (by first | rfl | (simp; done) | (simp [*]; done)), H', ⟨by have := HJ5.out; have := HK2.out; omega⟩, ⟨by (with_reducible repeat (first | apply Kd.R_alloc | apply Kd.R_drewN | apply Kd.R_drew)); exact HO959.out⟩, ⟨by (with_reducible repeat (first | apply Kd.R_alloc | apply Kd.R_drewN | apply Kd.R_drew)); exact HO956.out⟩, ⟨hU HB.out⟩⟩
           ·rw [if_neg c24] at H
            exact absurd H (by simp)
          ·rw [if_neg c23] at H
           exact absurd H (by simp)
        ·rw [if_neg c15] at H
         have c15b0 : decide ((x12_2.length : Int) < 16) = false := decide_eq_false c15
         have c15b1 : decide (x12_2.length < 16) = false := decide_eq_false (by omega)
         clear c15
         by_cases c29 : (0 : Int) = 0
         ·(first | rw [if_pos c29] at H | rw [if_pos trivial] at H)
          have c29b0 : ((0 : Int) == 0) = true := beq_iff_eq.mpr c29
          have c29b1 : ((0 : Int) != 0) = false := bne_eq_false_iff_eq.mpr c29
          clear c29
          obtain ⟨ji30, hji30⟩ : ∃ j_ : Int, (mn a2 (wrap64 (a1 - x14_2))) = j_ := ⟨_, rfl⟩
          replace H : (if x11_2.length < 5864062014805 then (dancestudioref26_Find.l0 k2 l0 a1 a2 (x11_2 ++ [(⟨x14_2, wrap64 (x14_2 + (ji30)), 1⟩ : S88)]) x12_2 (wrap64 (x13_2 + (ji30))) (wrap64 (x14_2 + (wrap64 ((ji30) * 1))))) else (none)) = some (r1, r2, r3, r4) := by first | (rw [hji30] at H; exact H) | (simp only [hji30] at H ⊢; exact H)
          have hji30_ : (if (wrap64 (a1 - x14_2)) < a2 then (wrap64 (a1 - x14_2)) else a2) = ji30 := hji30
          by_cases c31 : x11_2.length < 5864062014805
          ·rw [if_pos c31] at H
           have LMc31 := Aside0.mk c31
           clear c31
           obtain ⟨y960, hy960⟩ : ∃ y_ : List (S88), y_ = (x11_2 ++ [(⟨x14_2, wrap64 (x14_2 + (ji30)), 1⟩ : S88)]) := ⟨_, rfl⟩
           replace H : (dancestudioref26_Find.l0 k2 l0 a1 a2 y960 x12_2 (wrap64 (x13_2 + (ji30))) (wrap64 (x14_2 + (wrap64 ((ji30) * 1))))) = some (r1, r2, r3, r4) := by first | (rw [hy960]; with_reducible exact H) | (have H2_ := (Option.bind_some _ _).symm.trans H; rw [hy960]; with_reducible exact H2_) | (have H2_ := (Option.bind_some _ _).symm.trans H; with_reducible exact H2_) | with_reducible exact H | (rw [hy960]; exact H) | exact H
           have Ny960 := Aside0.mk hy960
           clear hy960
           have H' := Aside0.mk H
           clear H
           obtain ⟨Ao32, co32, eo32⟩ := Kd.R_slice HO_12.out
           subst eo32
           go_wp2_with (first | ((with_reducible refine gate_builtin (b := .append) (xs := #[.tmp 63, .tmp 69]) rfl ?_); at_builtin; refine Kd.R_append k88 (w0 := w) w.heap.size rfl (.tmp 63) (.tmp 69) 81 88 (.agg #[(.int .i64 0), (.int .i64 0), (.int .i64 0)]) 24 rfl Try.underlying81 info88 rfl (by decide) (by omega) u11 x11_2 (⟨x14_2, wrap64 (x14_2 + (ji30)), 1⟩ : S88) [.int .i64 x14_2, .int .i64 (wrap64 (x14_2 + (ji30))), .int .i64 1] (fun _ => True) (fun _ => False) rfl rfl ?aP (fun _ hk => hk.elim) ?aF ?aO ?aB ?aS ?aL ?_; (case aP => exact k88_mkM _ _ _ (⟨x14_2, wrap64 (x14_2 + (ji30)), 1⟩ : S88)); (case aB => exact (hU HB.out)); (case aF => exact (fun _ _ => trivial)); (case aO => exact (Kd.rU HO_11.out)); (case aS => exact (below_size (hU HB.out))); (case aL => have := LMc31.out; omega); intro v961 w33 ho hb hg hat; rw [← Ny960.out] at ho; have n0_ := Aside0.mk (Kd.R_over' (Kd.rU HO_12.out) (Kd.R_typed (Kd.rU HO_11.out)) (by decide) hg); have n1_ := Aside0.mk (hb); have n2_ := Aside0.mk (ho); clear HO_12; clear HB; clear HO_11; have HO_12 := n0_; have HB := n1_; have HO962 := n2_; clear n0_ n1_ n2_; clear ho hb hg hat))
           go_roundg k2
           case measure => have := HJ5.out; have := HK2.out; omega
           case rel => exact ⟨(y960), (x12_2), (wrap64 (x13_2 + (ji30))), (wrap64 (x14_2 + (wrap64 ((ji30) * 1)))), (by first | rfl | (simp; done) | (simp only [← hji30] <;> (first | rfl | simp)) | (simp [*]; done)), (by first | rfl | (simp; done) | (simp only [← hji30] <;> (first | rfl | simp)) | (simp [*]; done)), H', ⟨by have := HJ5.out; have := HK2.out; omega⟩, ⟨by (with_reducible repeat (first | apply Kd.R_alloc | apply Kd.R_drewN | apply Kd.R_drew)); exact HO962.out⟩, ⟨by (with_reducible repeat (first | apply Kd.R_alloc | apply Kd.R_drewN | apply Kd.R_drew)); exact HO_12.out⟩, ⟨hU HB.out⟩⟩
          ·rw [if_neg c31] at H
           exact absurd H (by simp)
         ·exact absurd rfl c29
       ·rw [if_neg c14] at H
        have c14b0 : decide (x14_2 < a1) = false := decide_eq_false c14
        clear c14
        replace H := Option.bind_eq_some_iff.mp H
        obtain ⟨t946, A390, H⟩ := H
        replace H : (some (t946, x13_2, x12_2, 0)) = some (r1, r2, r3, r4) := H
        have A39 := Aside0.mk A390
        clear A390
        simp only [Option.some.injEq, Prod.mk.injEq] at H
        obtain ⟨rfl, rfl, rfl, rfl⟩ := H
        obtain ⟨Ao40, co40, eo40⟩ := Kd.R_slice HO_11.out
        subst eo40
        go_wp2_with (first | ((with_reducible refine gate_callee (f := 75) rfl ?_); refine goesL_ (some 81) rfl rfl Try.func75 (by kernel_rfl) rfl #[.slice A0 l0.length c0, .slice Ao40 x11_2.length co40] rfl (by (try simp only [List.map_toArray, List.map_cons, List.map_nil]); first | done | rfl | (simp only [List.length_drop, List.length_take]; rfl)) ?_; (with_reducible refine (dancestudioref26_performed.calls k2 _ _ l0 _ _ x11_2 t946 _ ?side1 ?side2 ?side3 ?side4 A39.out).mono ?_); (case side1 => repeat (first | exact (Kd.C_below HR0.out HB.out) | (with_reducible refine Kd.C_alloc ?_ _) | (with_reducible refine Kd.C_drewN ?_ _) | (with_reducible refine Kd.C_drew ?_))); (case side2 => exact HC0.out); (case side3 => repeat (first | exact (Kd.R_reads' HO_11.out).2.2 | (with_reducible refine Kd.C_alloc ?_ _) | (with_reducible refine Kd.C_drewN ?_ _) | (with_reducible refine Kd.C_drew ?_))); (case side4 => exact (Kd.R_reads' HO_11.out).2.1); rintro e w41 ⟨v947, rfl, ho0, hb⟩; refine ⟨_, rfl, ?_⟩; have n0_ := Aside0.mk (Kd.R_below (Kd.rU HO_11.out) hb); have n1_ := Aside0.mk (Kd.R_below (Kd.rU HO_12.out) hb); have n2_ := Aside0.mk (Kd.R_lower ho0 (below_size (hU HB.out))); have n3_ := Aside0.mk (below_step (hU HB.out) hb); clear HO_11; clear HO_12; clear HB; have HO_11 := n0_; have HO_12 := n1_; have HO948 := n2_; have HB := n3_; clear n0_ n1_ n2_ n3_; (try clear hb); (try clear hb2); (try clear hk); (try clear hi); (try clear ho0)))
        refine bodyPost_ret (results_list (rs := [.tmp 6, .tmp 7, .tmp 8, .tmp 9]) rfl (by simp) (.tmp (.tmp (.tmp (.tmp .nil))))) rfl ?_
        exact ⟨_, _, by first | rfl | (simp [errW_none, errW_some] <;> rfl) | (simp [*, errW_none, errW_some] <;> rfl), by (with_reducible repeat (first | apply Kd.R_alloc | apply Kd.R_drewN | apply Kd.R_drew)); exact HO948.out, by (with_reducible repeat (first | apply Kd.R_alloc | apply Kd.R_drewN | apply Kd.R_drew)); exact HO_12.out, hU HB.out⟩
 ·rw [if_neg c5] at H
  have c5b0 : (t939 == 0) = false := beq_eq_false_iff_ne.mpr c5
  have c5b1 : (t939 != 0) = true := bne_iff_ne.mpr c5
  simp only [Option.some.injEq, Prod.mk.injEq] at H
  obtain ⟨rfl, rfl, rfl, rfl⟩ := H
  go_enter Try.func49, Try.ntmps49
  go_wp2_with (first | ((with_reducible refine gate_callee (f := 21) rfl ?_); refine goesL_ (some 19) rfl rfl Try.func21 (by kernel_rfl) rfl #[.slice A0 l0.length c0, .int .i64 a1] rfl (by (try simp only [List.map_toArray, List.map_cons, List.map_nil]); first | done | rfl | (simp only [List.length_drop, List.length_take]; rfl)) ?_; (with_reducible refine (dancestudioref24_Check.calls k _ _ l0 a1 t939 _ ?side1 ?side2 A4.out).mono ?_); (case side1 => repeat (first | exact HR0.out | (with_reducible refine Kd.C_alloc ?_ _) | (with_reducible refine Kd.C_drewN ?_ _) | (with_reducible refine Kd.C_drew ?_))); (case side2 => exact HC0.out); rintro e w42 ⟨rfl, hb⟩; refine ⟨_, rfl, ?_⟩; have n0_ := Aside0.mk (below_step (hU HB.out) hb); clear HB; have HB := n0_; clear n0_; (try clear hb); (try clear hb2); (try clear hk); (try clear hi)))
  refine bodyPost_ret (results_list (rs := [.tmp 6, .tmp 7, .tmp 8, .tmp 9]) rfl (by simp) (.tmp (.tmp (.tmp (.tmp .nil))))) rfl ?_
  exact ⟨_, _, by first | rfl | (simp [errW_none, errW_some] <;> rfl) | (simp [*, errW_none, errW_some] <;> rfl), by first | exact Kd.R_nil _ _ _ _ _ | exact Kd.N_nil _ _ _ _ _ | exact Kd.V_nil _ _ _ _ _ | exact Kd.Q_nil _ _ _ _ _ | exact Kd.S_nil _ _ _ _ _, by first | exact Kd.R_nil _ _ _ _ _ | exact Kd.N_nil _ _ _ _ _ | exact Kd.V_nil _ _ _ _ _ | exact Kd.Q_nil _ _ _ _ _ | exact Kd.S_nil _ _ _ _ _, hU HB.out⟩

end Go.Proofs.Ytdilndbanhianaa.P

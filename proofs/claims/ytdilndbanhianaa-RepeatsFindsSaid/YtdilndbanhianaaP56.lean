-- Written by a program of this session (myprint.py over the kit's print): the Go functions of the seat as Lean functions, and what their calls do.
import Derived.Test.YtdilndbanhianaaVMA
import Derived.Test.YtdilndbanhianaaP36
import Derived.Test.YtdilndbanhianaaP45
import Derived.Test.YtdilndbanhianaaP46
namespace Go.Proofs.Ytdilndbanhianaa.P
open Go.RowKit Go.Proofs.YtdilndbanhianaaW.PrintWords Go.Proofs.YtdilndbanhianaaW.PrintLast Go.Proofs.YtdilndbanhianaaW.PrintMore
attribute [local go_sem] max2_int min2_int max_two min_two max_three min_three max_four min_four   -- for this text's walks alone
set_option linter.unusedVariables false
set_option linter.unusedSimpArgs false

/-! ### dancestudioref26_same: function 93 -/
def dancestudioref26_same.j0 : Nat → List (S29) → Int → Int → Int → Bool → Option (Bool)
 | 0, _, _, _, _, _ => none
 | k + 1, x0, x2, x3, x4, x45 => if x45 = true then (some false) else ((dancestudioref26_performed.f k x0 (([(⟨x2, wrap64 (x2 + x4), 1⟩ : S88)] : List (S88)))).bind fun t927 => ((dancestudioref26_performed.f k x0 (([(⟨x3, wrap64 (x3 + x4), 1⟩ : S88)] : List (S88)))).bind fun t933 => ((dancestudioref26_Same.f k t927 t933).bind fun t936 => (some t936))))
def dancestudioref26_same.f (k : Nat) (l0 : List (S29)) (a1 : Int) (a2 : Int) (a3 : Int) (a4 : Int) : Option (Bool) := if (wrap64 (a3 + a4)) > a1 then (dancestudioref26_same.j0 k l0 a2 a3 a4 true) else ((dancestudioref26_cut.f k l0 a2).bind fun t920 => (if t920 = true then ((dancestudioref26_cut.f k l0 (wrap64 (a2 + a4))).bind fun t921 => (if t921 = true then ((dancestudioref26_cut.f k l0 a3).bind fun t922 => (if t922 = true then ((dancestudioref26_cut.f k l0 (wrap64 (a3 + a4))).bind fun t923 => (dancestudioref26_same.j0 k l0 a2 a3 a4 (!t923))) else (dancestudioref26_same.j0 k l0 a2 a3 a4 true))) else (dancestudioref26_same.j0 k l0 a2 a3 a4 true))) else (dancestudioref26_same.j0 k l0 a2 a3 a4 true)))
theorem dancestudioref26_same.mono_l : ∀ k, (∀ y0 y1 y2 y3 y4, LeO (dancestudioref26_same.j0 k y0 y1 y2 y3 y4) (dancestudioref26_same.j0 (k + 1) y0 y1 y2 y3 y4))
 | 0 => fun _ _ _ _ _ r h => by simp [dancestudioref26_same.j0] at h
 | k + 1 => by
  have ih0 := dancestudioref26_same.mono_l k
  ·intro y0 y1 y2 y3 y4
   unfold dancestudioref26_same.j0
   repeat' first
   | (with_reducible exact ih0 _ _ _ _ _)
   | (with_reducible exact dancestudioref26_Same.mono _ _ _)
   | (with_reducible exact dancestudioref26_cut.mono _ _ _)
   | (with_reducible exact dancestudioref26_performed.mono _ _ _)
   | (with_reducible exact LeO.refl _)
   | (with_reducible exact LeO.none _)
   | (with_reducible refine LeO.ite ?_ ?_)
   | (with_reducible refine LeO.bind ?_ (fun _ => ?_))
   | exact ih0 _ _ _ _ _
   | exact dancestudioref26_Same.mono _ _ _
   | exact dancestudioref26_cut.mono _ _ _
   | exact dancestudioref26_performed.mono _ _ _
   | exact LeO.none _
   | refine LeO.ite ?_ ?_
   | refine LeO.bind ?_ (fun _ => ?_)
theorem dancestudioref26_same.mono : ∀ a0 a1 a2 a3 a4 k, LeO (dancestudioref26_same.f k a0 a1 a2 a3 a4) (dancestudioref26_same.f (k + 1) a0 a1 a2 a3 a4) := by
 intro a0 a1 a2 a3 a4 k
 have ih0 := dancestudioref26_same.mono_l k
 unfold dancestudioref26_same.f
 repeat' first
   | (with_reducible exact ih0 _ _ _ _ _)
   | (with_reducible exact dancestudioref26_Same.mono _ _ _)
   | (with_reducible exact dancestudioref26_cut.mono _ _ _)
   | (with_reducible exact dancestudioref26_performed.mono _ _ _)
   | (with_reducible exact LeO.refl _)
   | (with_reducible exact LeO.none _)
   | (with_reducible refine LeO.ite ?_ ?_)
   | (with_reducible refine LeO.bind ?_ (fun _ => ?_))
   | exact ih0 _ _ _ _ _
   | exact dancestudioref26_Same.mono _ _ _
   | exact dancestudioref26_cut.mono _ _ _
   | exact dancestudioref26_performed.mono _ _ _
   | exact LeO.none _
   | refine LeO.ite ?_ ?_
   | refine LeO.bind ?_ (fun _ => ?_)
set_option maxHeartbeats 8000000 in
set_option maxRecDepth 100000 in
theorem dancestudioref26_same.calls (k : Nat) (A0 : Option Addr) (c0 : Nat) (l0 : List (S29)) (a1 : Int) (a2 : Int) (a3 : Int) (a4 : Int) (r : Bool) (w : World) (hr0 : Kd.C k29 w A0 l0.length l0) (hc0 : l0.length ≤ c0) (h : dancestudioref26_same.f k l0 a1 a2 a3 a4 = some r) :
  Calls Try.prog 93 #[.slice A0 l0.length c0, .int .i64 a1, .int .i64 a2, .int .i64 a3, .int .i64 a4] w fun e w' => e = .returned (.bool r) ∧ Below w.heap.size w w' := by
 have hu88 := Try.underlying88
 have HR0 := Aside0.mk hr0
 have HC0 := Aside0.mk hc0
 clear hr0 hc0
 have HB := Aside0.mk (Below.refl w.heap.size w)
 have H : (if (wrap64 (a3 + a4)) > a1 then (dancestudioref26_same.j0 k l0 a2 a3 a4 true) else ((dancestudioref26_cut.f k l0 a2).bind fun t920 => (if t920 = true then ((dancestudioref26_cut.f k l0 (wrap64 (a2 + a4))).bind fun t921 => (if t921 = true then ((dancestudioref26_cut.f k l0 a3).bind fun t922 => (if t922 = true then ((dancestudioref26_cut.f k l0 (wrap64 (a3 + a4))).bind fun t923 => (dancestudioref26_same.j0 k l0 a2 a3 a4 (!t923))) else (dancestudioref26_same.j0 k l0 a2 a3 a4 true))) else (dancestudioref26_same.j0 k l0 a2 a3 a4 true))) else (dancestudioref26_same.j0 k l0 a2 a3 a4 true)))) = some r := h
 clear h
 have HC6 := Aside0.mk H
 clear H
 go_enter Try.func93, Try.ntmps93
 go_upto_region 1 with (fail)
 go_cut [45] (fun v45 wc => ∃ (kq : Nat) (x45_5 : Bool), v45 = .bool x45_5 ∧ Aside0 (dancestudioref26_same.j0 kq l0 a2 a3 a4 x45_5 = some r) ∧ Aside0 (kq ≤ k) ∧ Aside0 (Below w.heap.size w wc))
 case first =>
  have H := HC6.out
  clear HC6
  by_cases c7 : (wrap64 (a3 + a4)) > a1
  ·rw [if_pos c7] at H
   have c7b0 : decide (a1 < (wrap64 (a3 + a4))) = true := decide_eq_true c7
   clear c7
   (first | rw [c7b0] | (simp only [i64_w, i32_w]; rw [c7b0]) | skip)
   have H' := Aside0.mk H
   clear H
   go_wp2
   go_meet
   case rel => exact ⟨_, (true), (by first | rfl | (simp; done) | (simp [*]; done)), H', ⟨by first | omega | exact Nat.le_refl _⟩, ⟨hU HB.out⟩⟩
  ·rw [if_neg c7] at H
   have c7b0 : decide (a1 < (wrap64 (a3 + a4))) = false := decide_eq_false c7
   clear c7
   (first | rw [c7b0] | (simp only [i64_w, i32_w]; rw [c7b0]) | skip)
   replace H := Option.bind_eq_some_iff.mp H
   obtain ⟨t920, A80, H⟩ := H
   try dsimp only at H
   have A8 := Aside0.mk A80
   clear A80
   by_cases c9 : t920 = true
   ·subst c9
    rw [if_pos rfl] at H
    replace H := Option.bind_eq_some_iff.mp H
    obtain ⟨t921, A100, H⟩ := H
    try dsimp only at H
    have A10 := Aside0.mk A100
    clear A100
    by_cases c11 : t921 = true
    ·subst c11
     rw [if_pos rfl] at H
     replace H := Option.bind_eq_some_iff.mp H
     obtain ⟨t922, A120, H⟩ := H
     try dsimp only at H
     have A12 := Aside0.mk A120
     clear A120
     by_cases c13 : t922 = true
     ·subst c13
      have H1 : ((dancestudioref26_cut.f k l0 (wrap64 (a3 + a4))).bind fun t923 => (dancestudioref26_same.j0 k l0 a2 a3 a4 (!t923))) = some r := by rw [if_pos rfl] at H; exact H
      clear H
      have H := H1
      clear H1
      replace H := Option.bind_eq_some_iff.mp H
      obtain ⟨t923, A140, H⟩ := H
      replace H : (dancestudioref26_same.j0 k l0 a2 a3 a4 (!t923)) = some r := H
      have A14 := Aside0.mk A140
      clear A140
      have H' := Aside0.mk H
      clear H
      go_wp2_with (first | (go_at_call 74; (with_reducible refine (dancestudioref26_cut.calls k _ _ l0 a2 true _ ?side1 ?side2 A8.out).mono ?_); (case side1 => repeat (first | exact (Kd.C_below HR0.out HB.out) | (with_reducible refine Kd.C_alloc ?_ _) | (with_reducible refine Kd.C_drewN ?_ _) | (with_reducible refine Kd.C_drew ?_))); (case side2 => exact HC0.out); rintro e w' ⟨rfl, ⟨nd, rfl⟩⟩) | (go_at_call 74; (with_reducible refine (dancestudioref26_cut.calls k _ _ l0 (wrap64 (a2 + a4)) true _ ?side1 ?side2 A10.out).mono ?_); (case side1 => repeat (first | exact (Kd.C_below HR0.out (hU HB.out)) | (with_reducible refine Kd.C_alloc ?_ _) | (with_reducible refine Kd.C_drewN ?_ _) | (with_reducible refine Kd.C_drew ?_))); (case side2 => exact HC0.out); rintro e w' ⟨rfl, ⟨nd, rfl⟩⟩) | (go_at_call 74; (with_reducible refine (dancestudioref26_cut.calls k _ _ l0 a3 true _ ?side1 ?side2 A12.out).mono ?_); (case side1 => repeat (first | exact (Kd.C_below HR0.out (hU HB.out)) | (with_reducible refine Kd.C_alloc ?_ _) | (with_reducible refine Kd.C_drewN ?_ _) | (with_reducible refine Kd.C_drew ?_))); (case side2 => exact HC0.out); rintro e w' ⟨rfl, ⟨nd, rfl⟩⟩) | (go_at_call 74; (with_reducible refine (dancestudioref26_cut.calls k _ _ l0 (wrap64 (a3 + a4)) t923 _ ?side1 ?side2 A14.out).mono ?_); (case side1 => repeat (first | exact (Kd.C_below HR0.out (hU HB.out)) | (with_reducible refine Kd.C_alloc ?_ _) | (with_reducible refine Kd.C_drewN ?_ _) | (with_reducible refine Kd.C_drew ?_))); (case side2 => exact HC0.out); rintro e w' ⟨rfl, ⟨nd, rfl⟩⟩))
      go_meet
      case rel => exact ⟨_, (!t923), (by first | rfl | (simp; done) | (simp [*]; done)), H', ⟨by first | omega | exact Nat.le_refl _⟩, ⟨hU HB.out⟩⟩
     ·replace c13 := Bool.eq_false_iff.mpr c13
      subst c13
      have H1 : (dancestudioref26_same.j0 k l0 a2 a3 a4 true) = some r := by rw [if_neg (show ¬ (false = true) by decide)] at H; exact H
      clear H
      have H := H1
      clear H1
      have H' := Aside0.mk H
      clear H
      go_wp2_with (first | (go_at_call 74; (with_reducible refine (dancestudioref26_cut.calls k _ _ l0 a2 true _ ?side1 ?side2 A8.out).mono ?_); (case side1 => repeat (first | exact (Kd.C_below HR0.out HB.out) | (with_reducible refine Kd.C_alloc ?_ _) | (with_reducible refine Kd.C_drewN ?_ _) | (with_reducible refine Kd.C_drew ?_))); (case side2 => exact HC0.out); rintro e w' ⟨rfl, ⟨nd, rfl⟩⟩) | (go_at_call 74; (with_reducible refine (dancestudioref26_cut.calls k _ _ l0 (wrap64 (a2 + a4)) true _ ?side1 ?side2 A10.out).mono ?_); (case side1 => repeat (first | exact (Kd.C_below HR0.out (hU HB.out)) | (with_reducible refine Kd.C_alloc ?_ _) | (with_reducible refine Kd.C_drewN ?_ _) | (with_reducible refine Kd.C_drew ?_))); (case side2 => exact HC0.out); rintro e w' ⟨rfl, ⟨nd, rfl⟩⟩) | (go_at_call 74; (with_reducible refine (dancestudioref26_cut.calls k _ _ l0 a3 false _ ?side1 ?side2 A12.out).mono ?_); (case side1 => repeat (first | exact (Kd.C_below HR0.out (hU HB.out)) | (with_reducible refine Kd.C_alloc ?_ _) | (with_reducible refine Kd.C_drewN ?_ _) | (with_reducible refine Kd.C_drew ?_))); (case side2 => exact HC0.out); rintro e w' ⟨rfl, ⟨nd, rfl⟩⟩))
      go_meet
      case rel => exact ⟨_, (true), (by first | rfl | (simp; done) | (simp [*]; done)), H', ⟨by first | omega | exact Nat.le_refl _⟩, ⟨hU HB.out⟩⟩
    ·replace c11 := Bool.eq_false_iff.mpr c11
     subst c11
     have H1 : (dancestudioref26_same.j0 k l0 a2 a3 a4 true) = some r := by rw [if_neg (show ¬ (false = true) by decide)] at H; exact H
     clear H
     have H := H1
     clear H1
     have H' := Aside0.mk H
     clear H
     go_wp2_with (first | (go_at_call 74; (with_reducible refine (dancestudioref26_cut.calls k _ _ l0 a2 true _ ?side1 ?side2 A8.out).mono ?_); (case side1 => repeat (first | exact (Kd.C_below HR0.out HB.out) | (with_reducible refine Kd.C_alloc ?_ _) | (with_reducible refine Kd.C_drewN ?_ _) | (with_reducible refine Kd.C_drew ?_))); (case side2 => exact HC0.out); rintro e w' ⟨rfl, ⟨nd, rfl⟩⟩) | (go_at_call 74; (with_reducible refine (dancestudioref26_cut.calls k _ _ l0 (wrap64 (a2 + a4)) false _ ?side1 ?side2 A10.out).mono ?_); (case side1 => repeat (first | exact (Kd.C_below HR0.out (hU HB.out)) | (with_reducible refine Kd.C_alloc ?_ _) | (with_reducible refine Kd.C_drewN ?_ _) | (with_reducible refine Kd.C_drew ?_))); (case side2 => exact HC0.out); rintro e w' ⟨rfl, ⟨nd, rfl⟩⟩))
     go_meet
     case rel => exact ⟨_, (true), (by first | rfl | (simp; done) | (simp [*]; done)), H', ⟨by first | omega | exact Nat.le_refl _⟩, ⟨hU HB.out⟩⟩
   ·replace c9 := Bool.eq_false_iff.mpr c9
    subst c9
    have H1 : (dancestudioref26_same.j0 k l0 a2 a3 a4 true) = some r := by rw [if_neg (show ¬ (false = true) by decide)] at H; exact H
    clear H
    have H := H1
    clear H1
    have H' := Aside0.mk H
    clear H
    go_wp2_with (first | (go_at_call 74; (with_reducible refine (dancestudioref26_cut.calls k _ _ l0 a2 false _ ?side1 ?side2 A8.out).mono ?_); (case side1 => repeat (first | exact (Kd.C_below HR0.out HB.out) | (with_reducible refine Kd.C_alloc ?_ _) | (with_reducible refine Kd.C_drewN ?_ _) | (with_reducible refine Kd.C_drew ?_))); (case side2 => exact HC0.out); rintro e w' ⟨rfl, ⟨nd, rfl⟩⟩))
    go_meet
    case rel => exact ⟨_, (true), (by first | rfl | (simp; done) | (simp [*]; done)), H', ⟨by first | omega | exact Nat.le_refl _⟩, ⟨hU HB.out⟩⟩
 case rest =>
  clear HC6
  try clear c1
  try clear p2
  try clear p6
  try clear c7
  try clear c7b0
  try clear c9
  try clear c11
  try clear c13
  obtain ⟨kq, x45_5, rfl, HA, HJ5, HB⟩ := hcut
  cases kq with
  | zero => exact absurd HA.out (by simp [dancestudioref26_same.j0])
  | succ kj5 =>
   have H := HA.out
   clear HA
   simp only [dancestudioref26_same.j0] at H
   by_cases c15 : x45_5 = true
   ·subst c15
    have H1 : (some false) = some r := by rw [if_pos rfl] at H; exact H
    clear H
    have H := H1
    clear H1
    obtain rfl := Option.some.inj H
    go_wp2
    go_ret
    exact ⟨by first | rfl | (simp [errW_none, errW_some] <;> rfl) | (simp [*, errW_none, errW_some] <;> rfl), hU HB.out⟩
   ·replace c15 := Bool.eq_false_iff.mpr c15
    subst c15
    rw [if_neg (show ¬ (false = true) by decide)] at H
    obtain ⟨y924, hy924⟩ : ∃ y_ : List (S88), y_ = (([(⟨a2, wrap64 (a2 + a4), 1⟩ : S88)] : List (S88))) := ⟨_, rfl⟩
    replace H : ((dancestudioref26_performed.f kj5 l0 y924).bind fun t927 => ((dancestudioref26_performed.f kj5 l0 (([(⟨a3, wrap64 (a3 + a4), 1⟩ : S88)] : List (S88)))).bind fun t933 => ((dancestudioref26_Same.f kj5 t927 t933).bind fun t936 => (some t936)))) = some r := by first | (rw [hy924]; with_reducible exact H) | (have H2_ := (Option.bind_some _ _).symm.trans H; rw [hy924]; with_reducible exact H2_) | (have H2_ := (Option.bind_some _ _).symm.trans H; with_reducible exact H2_) | with_reducible exact H | (rw [hy924]; exact H) | exact H
    have Ny924 := Aside0.mk hy924
    clear hy924
    replace H := Option.bind_eq_some_iff.mp H
    obtain ⟨t927, A160, H⟩ := H
    try dsimp only at H
    have A16 := Aside0.mk A160
    clear A160
    obtain ⟨y930, hy930⟩ : ∃ y_ : List (S88), y_ = (([(⟨a3, wrap64 (a3 + a4), 1⟩ : S88)] : List (S88))) := ⟨_, rfl⟩
    replace H : ((dancestudioref26_performed.f kj5 l0 y930).bind fun t933 => ((dancestudioref26_Same.f kj5 t927 t933).bind fun t936 => (some t936))) = some r := by first | (rw [hy930]; with_reducible exact H) | (have H2_ := (Option.bind_some _ _).symm.trans H; rw [hy930]; with_reducible exact H2_) | (have H2_ := (Option.bind_some _ _).symm.trans H; with_reducible exact H2_) | with_reducible exact H | (rw [hy930]; exact H) | exact H
    have Ny930 := Aside0.mk hy930
    clear hy930
    replace H := Option.bind_eq_some_iff.mp H
    obtain ⟨t933, A170, H⟩ := H
    replace H : ((dancestudioref26_Same.f kj5 t927 t933).bind fun t936 => (some t936)) = some r := H
    have A17 := Aside0.mk A170
    clear A170
    replace H := Option.bind_eq_some_iff.mp H
    obtain ⟨t936, A180, H⟩ := H
    replace H : (some t936) = some r := H
    have A18 := Aside0.mk A180
    clear A180
    obtain rfl := Option.some.inj H
    go_wp2_with (first | ((with_reducible refine gate_dst (N := 52) rfl ?_); refine Kd.R_lit k88 _ 88 ?hg (N := 52) ?hd (xs := ([(⟨a2, wrap64 (a2 + a4), 1⟩ : S88)] : List (S88))) (inner := [.int .i64 a2, .int .i64 (wrap64 (a2 + a4)), .int .i64 1]) (ok := fun _ => True) (okp := fun _ => True) ?hr ?hp (fun _ hk => hk) trivial (Below.refl _ _) (Nat.le_refl _) (by simp) ?_; (case hd => rfl); (case hg => rfl); (case hr => first | (go_simp; done) | (go_simp; rfl)); (case hp => exact (Reps.c3 (show Kd.M k88 _ _ _ (⟨a2, wrap64 (a2 + a4), 1⟩ : S88) [.int .i64 a2, .int .i64 (wrap64 (a2 + a4)), .int .i64 1] from (k88_mkM _ _ _ (⟨a2, wrap64 (a2 + a4), 1⟩ : S88) )) (Reps.none _ _))); intro v925 w19 ho20 hb hg_ hnew_; clear hg_ hnew_; (first | rw [← Ny924.out] at ho20 | (simp only [Int.reduceToNat] at ho20; rw [← Ny924.out] at ho20)); have n0_ := Aside0.mk (Kd.R_lower ho20 (below_size (hU HB.out))); have n1_ := Aside0.mk (below_step (hU HB.out) hb); clear HB; have HO926 := n0_; have HB := n1_; clear n0_ n1_; clear hb ho20; obtain ⟨Ao21, co21, eo21⟩ := Kd.R_slice HO926.out; subst eo21) | ((with_reducible refine gate_callee (f := 75) rfl ?_); refine goesL_ (some 53) rfl rfl Try.func75 (by kernel_rfl) rfl #[.slice A0 l0.length c0, .slice Ao21 y924.length co21] rfl (by (try simp only [List.map_toArray, List.map_cons, List.map_nil]); first | done | rfl | (simp only [List.length_drop, List.length_take]; rfl)) ?_; (with_reducible refine (dancestudioref26_performed.calls kj5 _ _ l0 _ _ y924 t927 _ ?side1 ?side2 ?side3 ?side4 A16.out).mono ?_); (case side1 => repeat (first | exact (Kd.C_below HR0.out HB.out) | (with_reducible refine Kd.C_alloc ?_ _) | (with_reducible refine Kd.C_drewN ?_ _) | (with_reducible refine Kd.C_drew ?_))); (case side2 => exact HC0.out); (case side3 => repeat (first | exact (Kd.R_reads' HO926.out).2.2 | (with_reducible refine Kd.C_alloc ?_ _) | (with_reducible refine Kd.C_drewN ?_ _) | (with_reducible refine Kd.C_drew ?_))); (case side4 => exact (Kd.R_reads' HO926.out).2.1); rintro e w22 ⟨v928, rfl, ho0, hb⟩; refine ⟨_, rfl, ?_⟩; have n0_ := Aside0.mk (Kd.R_below (Kd.rU HO926.out) hb); have n1_ := Aside0.mk (Kd.R_lower ho0 (below_size (hU HB.out))); have n2_ := Aside0.mk (below_step (hU HB.out) hb); clear HO926; clear HB; have HO926 := n0_; have HO929 := n1_; have HB := n2_; clear n0_ n1_ n2_; (try clear hb); (try clear hb2); (try clear hk); (try clear hi); (try clear ho0)) | ((with_reducible refine gate_dst (N := 60) rfl ?_); refine Kd.R_lit k88 _ 88 ?hg (N := 60) ?hd (xs := ([(⟨a3, wrap64 (a3 + a4), 1⟩ : S88)] : List (S88))) (inner := [.int .i64 a3, .int .i64 (wrap64 (a3 + a4)), .int .i64 1]) (ok := fun _ => True) (okp := fun _ => True) ?hr ?hp (fun _ hk => hk) trivial (Below.refl _ _) (Nat.le_refl _) (by simp) ?_; (case hd => rfl); (case hg => rfl); (case hr => first | (go_simp; done) | (go_simp; rfl)); (case hp => exact (Reps.c3 (show Kd.M k88 _ _ _ (⟨a3, wrap64 (a3 + a4), 1⟩ : S88) [.int .i64 a3, .int .i64 (wrap64 (a3 + a4)), .int .i64 1] from (k88_mkM _ _ _ (⟨a3, wrap64 (a3 + a4), 1⟩ : S88) )) (Reps.none _ _))); intro v931 w23 ho24 hb hg_ hnew_; clear hg_ hnew_; (first | rw [← Ny930.out] at ho24 | (simp only [Int.reduceToNat] at ho24; rw [← Ny930.out] at ho24)); have n0_ := Aside0.mk (Kd.R_elder' (Kd.rU HO926.out) (Kd.R_base ho24) hb); have n1_ := Aside0.mk (Kd.R_below (Kd.rU HO929.out) hb); have n2_ := Aside0.mk (Kd.R_lower (Kd.R_new' ho24 (Kd.R_lt (Kd.rU HO926.out))) (below_size (hU HB.out))); have n3_ := Aside0.mk (below_step (hU HB.out) hb); clear HO926; clear HO929; clear HB; have HO926 := n0_; have HO929 := n1_; have HO932 := n2_; have HB := n3_; clear n0_ n1_ n2_ n3_; clear hb ho24; obtain ⟨Ao25, co25, eo25⟩ := Kd.R_slice HO932.out; subst eo25) | ((with_reducible refine gate_callee (f := 75) rfl ?_); refine goesL_ (some 61) rfl rfl Try.func75 (by kernel_rfl) rfl #[.slice A0 l0.length c0, .slice Ao25 y930.length co25] rfl (by (try simp only [List.map_toArray, List.map_cons, List.map_nil]); first | done | rfl | (simp only [List.length_drop, List.length_take]; rfl)) ?_; (with_reducible refine (dancestudioref26_performed.calls kj5 _ _ l0 _ _ y930 t933 _ ?side1 ?side2 ?side3 ?side4 A17.out).mono ?_); (case side1 => repeat (first | exact (Kd.C_below HR0.out HB.out) | (with_reducible refine Kd.C_alloc ?_ _) | (with_reducible refine Kd.C_drewN ?_ _) | (with_reducible refine Kd.C_drew ?_))); (case side2 => exact HC0.out); (case side3 => repeat (first | exact (Kd.R_reads' HO932.out).2.2 | (with_reducible refine Kd.C_alloc ?_ _) | (with_reducible refine Kd.C_drewN ?_ _) | (with_reducible refine Kd.C_drew ?_))); (case side4 => exact (Kd.R_reads' HO932.out).2.1); rintro e w26 ⟨v934, rfl, ho0, hb⟩; refine ⟨_, rfl, ?_⟩; have n0_ := Aside0.mk (Kd.R_below (Kd.rU HO926.out) hb); have n1_ := Aside0.mk (Kd.R_elder' (Kd.rU HO929.out) (Kd.R_base ho0) hb); have n2_ := Aside0.mk (Kd.R_below (Kd.rU HO932.out) hb); have n3_ := Aside0.mk (Kd.R_lower (Kd.R_new' ho0 (Kd.R_lt (Kd.rU HO929.out))) (below_size (hU HB.out))); have n4_ := Aside0.mk (below_step (hU HB.out) hb); clear HO926; clear HO929; clear HO932; clear HB; have HO926 := n0_; have HO929 := n1_; have HO932 := n2_; have HO935 := n3_; have HB := n4_; clear n0_ n1_ n2_ n3_ n4_; (try clear hb); (try clear hb2); (try clear hk); (try clear hi); (try clear ho0); obtain ⟨Ao27, co27, eo27⟩ := Kd.R_slice HO929.out; subst eo27; obtain ⟨Ao28, co28, eo28⟩ := Kd.R_slice HO935.out; subst eo28) | ((with_reducible refine gate_callee (f := 46) rfl ?_); refine goesL_ (some 64) rfl rfl Try.func46 (by kernel_rfl) rfl #[.slice Ao27 t927.length co27, .slice Ao28 t933.length co28] rfl (by (try simp only [List.map_toArray, List.map_cons, List.map_nil]); first | done | rfl | (simp only [List.length_drop, List.length_take]; rfl)) ?_; (with_reducible refine (dancestudioref26_Same.calls kj5 _ _ t927 _ _ t933 t936 _ ?side1 ?side2 ?side3 ?side4 A18.out).mono ?_); (case side1 => repeat (first | exact (Kd.R_reads' HO929.out).2.2 | (with_reducible refine Kd.C_alloc ?_ _) | (with_reducible refine Kd.C_drewN ?_ _) | (with_reducible refine Kd.C_drew ?_))); (case side2 => exact (Kd.R_reads' HO929.out).2.1); (case side3 => repeat (first | exact (Kd.R_reads' HO935.out).2.2 | (with_reducible refine Kd.C_alloc ?_ _) | (with_reducible refine Kd.C_drewN ?_ _) | (with_reducible refine Kd.C_drew ?_))); (case side4 => exact (Kd.R_reads' HO935.out).2.1); rintro e w' ⟨rfl, ⟨nd, rfl⟩⟩; refine ⟨_, rfl, ?_⟩))
    go_ret
    exact ⟨by first | rfl | (simp [errW_none, errW_some] <;> rfl) | (simp [*, errW_none, errW_some] <;> rfl), hU HB.out⟩

end Go.Proofs.Ytdilndbanhianaa.P

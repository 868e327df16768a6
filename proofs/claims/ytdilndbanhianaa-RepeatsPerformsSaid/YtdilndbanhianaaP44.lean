-- Written by a program of this session (myprint.py over the kit's print): the Go functions of the seat as Lean functions, and what their calls do.
import Derived.Test.YtdilndbanhianaaVReg
import Derived.Test.YtdilndbanhianaaVMA
namespace Go.Proofs.Ytdilndbanhianaa.P
open Go.RowKit Go.Proofs.YtdilndbanhianaaW.PrintWords Go.Proofs.YtdilndbanhianaaW.PrintLast Go.Proofs.YtdilndbanhianaaW.PrintMore
attribute [local go_sem] max2_int min2_int max_two min_two max_three min_three max_four min_four   -- for this text's walks alone
set_option linter.unusedVariables false
set_option linter.unusedSimpArgs false

/-! ### dancestudioref26_Sections: function 69 -/
def dancestudioref26_Sections.l0 : Nat → Int → List (S61) → List (S88) → Int → Int → Option ((List (S88)))
 | 0, _, _, _, _, _ => none
 | k + 1, x0, x1, x5, x6, x7 => if x7 < (x1.length : Int) then (if 0 ≤ x7 then (if ((rd_T61 x1 x7).f0.f0) > x6 then (if x5.length < 5864062014805 then ((some (x5 ++ [(⟨x6, (rd_T61 x1 x7).f0.f0, 1⟩ : S88)] : List (S88))).bind fun y749 => (if y749.length < 5864062014805 then (dancestudioref26_Sections.l0 k x0 x1 (y749 ++ [(⟨(rd_T61 x1 x7).f0.f0, (rd_T61 x1 x7).f0.f1, (rd_T61 x1 x7).f1⟩ : S88)]) ((rd_T61 x1 x7).f0.f1) (wrap64 (x7 + 1))) else (none))) else (none)) else (if x5.length < 5864062014805 then (dancestudioref26_Sections.l0 k x0 x1 (x5 ++ [(⟨(rd_T61 x1 x7).f0.f0, (rd_T61 x1 x7).f0.f1, (rd_T61 x1 x7).f1⟩ : S88)]) ((rd_T61 x1 x7).f0.f1) (wrap64 (x7 + 1))) else (none))) else (none)) else (if x0 > x6 then (if x5.length < 5864062014805 then (some (x5 ++ [(⟨x6, x0, 1⟩ : S88)])) else (none)) else (some x5))
def dancestudioref26_Sections.f (k : Nat) (a0 : Int) (l1 : List (S61)) : Option ((List (S88))) := dancestudioref26_Sections.l0 k a0 l1 (([] : List (S88))) 0 0
theorem dancestudioref26_Sections.mono_l : ∀ k, (∀ y0 y1 y2 y3 y4, LeO (dancestudioref26_Sections.l0 k y0 y1 y2 y3 y4) (dancestudioref26_Sections.l0 (k + 1) y0 y1 y2 y3 y4))
 | 0 => fun _ _ _ _ _ r h => by simp [dancestudioref26_Sections.l0] at h
 | k + 1 => by
  have ih0 := dancestudioref26_Sections.mono_l k
  ·intro y0 y1 y2 y3 y4
   unfold dancestudioref26_Sections.l0
   repeat' first
   | (with_reducible exact ih0 _ _ _ _ _)
   | (with_reducible exact LeO.refl _)
   | (with_reducible exact LeO.none _)
   | (with_reducible refine LeO.ite ?_ ?_)
   | (with_reducible refine LeO.bind ?_ (fun _ => ?_))
   | exact ih0 _ _ _ _ _
   | exact LeO.none _
   | refine LeO.ite ?_ ?_
   | refine LeO.bind ?_ (fun _ => ?_)
theorem dancestudioref26_Sections.mono : ∀ a0 a1 k, LeO (dancestudioref26_Sections.f k a0 a1) (dancestudioref26_Sections.f (k + 1) a0 a1) := by
 intro a0 a1 k
 have ih0 := dancestudioref26_Sections.mono_l k
 unfold dancestudioref26_Sections.f
 repeat' first
   | (with_reducible exact ih0 _ _ _ _ _)
   | (with_reducible exact LeO.refl _)
   | (with_reducible exact LeO.none _)
   | (with_reducible refine LeO.ite ?_ ?_)
   | (with_reducible refine LeO.bind ?_ (fun _ => ?_))
   | exact ih0 _ _ _ _ _
   | exact LeO.none _
   | refine LeO.ite ?_ ?_
   | refine LeO.bind ?_ (fun _ => ?_)
def dancestudioref26_Sections.T7 : Bool × List (List Nat × List Nat) := (true, [([], []), ([], []), ([], []), ([1, 2], [1, 2]), ([3], [3]), ([4], [4]), ([5], [5]), ([], []), ([], []), ([7, 8], [7, 8]), ([9], [9]), ([10], [10]), ([11], [11]), ([], []), ([], []), ([13, 14], [13, 14]), ([15], [15]), ([16], [16]), ([6, 12, 17], [6, 12, 17]), ([18], [18]), ([0, 19], [0, 19]), ([20, 20, 0, 1, 2, 3, 4, 5, 6, 7, 8, 9, 10, 11, 12, 13, 14, 15, 16, 17, 18, 19, 20], [0, 20])])
def dancestudioref26_Sections.B7 : List Nat := [0, 0, 0, 6, 14, 30, 62, 0, 0, 384, 896, 1920, 3968, 0, 0, 24576, 57344, 122880, 262142, 524286, 1048575, 2097151]
theorem dancestudioref26_Sections.tab7 : rtab .any (opsOf Try.f69 7) = dancestudioref26_Sections.T7 := by kernel_rfl
theorem dancestudioref26_Sections.bits7 : waitsOk dancestudioref26_Sections.T7.2 dancestudioref26_Sections.B7 = true := by kernel_rfl
set_option maxHeartbeats 8000000 in
set_option maxRecDepth 100000 in
theorem dancestudioref26_Sections.calls (k : Nat) (a0 : Int) (A1 : Option Addr) (c1 : Nat) (l1 : List (S61)) (r : List (S88)) (w : World) (hr1 : Kd.C k61 w A1 l1.length l1) (hc1 : l1.length ≤ c1) (h : dancestudioref26_Sections.f k a0 l1 = some r) :
  Calls Try.prog 69 #[.int .i64 a0, .slice A1 l1.length c1] w fun e w' => ∃ v0_ : Value, e = .returned (v0_) ∧ Kd.R k88 88 w' w.heap.size (fun _ => True) v0_ r ∧ Below w.heap.size w w' := by
 have hu88 := Try.underlying88
 have HR1 := Aside0.mk hr1
 have HC1 := Aside0.mk hc1
 clear hr1 hc1
 have HB := Aside0.mk (Below.refl w.heap.size w)
 have H : (dancestudioref26_Sections.l0 k a0 l1 (([] : List (S88))) 0 0) = some r := h
 clear h
 obtain ⟨y744, hy744⟩ : ∃ y_ : List (S88), y_ = (([] : List (S88))) := ⟨_, rfl⟩
 replace H : (dancestudioref26_Sections.l0 k a0 l1 y744 0 0) = some r := by first | (rw [hy744]; with_reducible exact H) | (have H2_ := (Option.bind_some _ _).symm.trans H; rw [hy744]; with_reducible exact H2_) | (have H2_ := (Option.bind_some _ _).symm.trans H; with_reducible exact H2_) | with_reducible exact H | (rw [hy744]; exact H) | exact H
 have Ny744 := Aside0.mk hy744
 clear hy744
 have H' := Aside0.mk H
 clear H
 go_enter Try.func69, Try.ntmps69
 go_wp2_with (first | ((with_reducible refine gate_dst (N := 8) rfl ?_); refine Kd.R_lit k88 _ 88 ?hg (N := 8) ?hd (xs := ([] : List (S88))) (inner := []) (ok := fun _ => True) (okp := fun _ => True) ?hr ?hp (fun _ hk => hk) trivial (Below.refl _ _) (Nat.le_refl _) (by simp) ?_; (case hd => rfl); (case hg => rfl); (case hr => first | (go_simp; done) | (go_simp; rfl)); (case hp => exact (Reps.none _ _)); intro v745 w3 ho4 hb hg_ hnew_; clear hg_ hnew_; (first | rw [← Ny744.out] at ho4 | (simp only [Int.reduceToNat] at ho4; rw [← Ny744.out] at ho4)); have n0_ := Aside0.mk (Kd.R_lower ho4 (below_size (hU HB.out))); have n1_ := Aside0.mk (below_step (hU HB.out) hb); clear HB; have HO746 := n0_; have HB := n1_; clear n0_ n1_; clear hb ho4))
 go_loopg [5, 6, 7] k (fun kq v5 v6 v7 w' => ∃ (x5_1 : List (S88)) (x6_1 : Int) (x7_1 : Int), v6 = .int .i64 x6_1 ∧ v7 = .int .i64 x7_1 ∧ Aside0 (dancestudioref26_Sections.l0 kq a0 l1 x5_1 x6_1 x7_1 = some r) ∧ Aside0 (kq ≤ k) ∧ Aside0 (Kd.R k88 88 w' w.heap.size (fun _ => True) v5 x5_1) ∧ Aside0 (Below w.heap.size w w'))
 case atStart => exact ⟨(y744), (0), (0), (by first | rfl | (simp; done) | (simp [*]; done)), (by first | rfl | (simp; done) | (simp [*]; done)), H', ⟨Nat.le_refl _⟩, ⟨by (with_reducible repeat (first | apply Kd.R_alloc | apply Kd.R_drewN | apply Kd.R_drew)); exact HO746.out⟩, ⟨hU HB.out⟩⟩
 case round =>
  clear H'
  try clear c1
  try clear p2
  obtain ⟨x5_1, x6_1, x7_1, rfl, rfl, HA, HK1, HO_5, HB⟩ := hrel
  cases gk with
  | zero => exact absurd HA.out (by simp [dancestudioref26_Sections.l0])
  | succ k1 =>
   have H := HA.out
   clear HA
   simp only [dancestudioref26_Sections.l0] at H
   by_cases c5 : x7_1 < (l1.length : Int)
   ·rw [if_pos c5] at H
    have c5b0 : decide (x7_1 < (l1.length : Int)) = true := decide_eq_true c5
    clear c5
    by_cases c6 : 0 ≤ x7_1
    ·rw [if_pos c6] at H
     have c6b0 : decide (0 ≤ x7_1) = true := decide_eq_true c6
     clear c6
     by_cases c7 : ((rd_T61 l1 x7_1).f0.f0) > x6_1
     ·rw [if_pos c7] at H
      have c7b0 : decide (x6_1 < ((rd_T61 l1 x7_1).f0.f0)) = true := decide_eq_true c7
      clear c7
      by_cases c8 : x5_1.length < 5864062014805
      ·rw [if_pos c8] at H
       have LMc8 := Aside0.mk c8
       clear c8
       obtain ⟨y749, hy749⟩ : ∃ y_ : List (S88), y_ = (x5_1 ++ [(⟨x6_1, (rd_T61 l1 x7_1).f0.f0, 1⟩ : S88)]) := ⟨_, rfl⟩
       replace H : (if y749.length < 5864062014805 then (dancestudioref26_Sections.l0 k1 a0 l1 (y749 ++ [(⟨(rd_T61 l1 x7_1).f0.f0, (rd_T61 l1 x7_1).f0.f1, (rd_T61 l1 x7_1).f1⟩ : S88)]) ((rd_T61 l1 x7_1).f0.f1) (wrap64 (x7_1 + 1))) else (none)) = some r := by first | (rw [hy749]; with_reducible exact H) | (have H2_ := (Option.bind_some _ _).symm.trans H; rw [hy749]; with_reducible exact H2_) | (have H2_ := (Option.bind_some _ _).symm.trans H; with_reducible exact H2_) | with_reducible exact H | (rw [hy749]; exact H) | exact H
       have Ny749 := Aside0.mk hy749
       clear hy749
       by_cases c9 : y749.length < 5864062014805
       ·rw [if_pos c9] at H
        have LMc9 := Aside0.mk c9
        clear c9
        obtain ⟨y755, hy755⟩ : ∃ y_ : List (S88), y_ = (y749 ++ [(⟨(rd_T61 l1 x7_1).f0.f0, (rd_T61 l1 x7_1).f0.f1, (rd_T61 l1 x7_1).f1⟩ : S88)]) := ⟨_, rfl⟩
        replace H : (dancestudioref26_Sections.l0 k1 a0 l1 y755 ((rd_T61 l1 x7_1).f0.f1) (wrap64 (x7_1 + 1))) = some r := by first | (rw [hy755]; with_reducible exact H) | (have H2_ := (Option.bind_some _ _).symm.trans H; rw [hy755]; with_reducible exact H2_) | (have H2_ := (Option.bind_some _ _).symm.trans H; with_reducible exact H2_) | with_reducible exact H | (rw [hy755]; exact H) | exact H
        have Ny755 := Aside0.mk hy755
        clear hy755
        have H' := Aside0.mk H
        clear H
        have p747 : 0 ≤ (x7_1 : Int) := of_decide_eq_true (by first | (with_reducible assumption) | assumption)
        have q747 : x7_1 < (l1.length : Int) := of_decide_eq_true (by first | (with_reducible assumption) | assumption)
        obtain ⟨ad747, e747, hx747_0, hx747_1, hx747_2⟩ := at_T61 HR1.out x7_1 p747 q747
        cases e747
        replace hx747_0 := hbC HB hx747_0
        replace hx747_1 := hbC HB hx747_1
        replace hx747_2 := hbC HB hx747_2
        replace p747 := eq_true p747
        replace q747 := eq_true q747
        have p748 : 0 ≤ (x7_1 : Int) := of_decide_eq_true (by first | (with_reducible assumption) | assumption)
        have q748 : x7_1 < (l1.length : Int) := of_decide_eq_true (by first | (with_reducible assumption) | assumption)
        obtain ⟨ad748, e748, hx748_0, hx748_1, hx748_2⟩ := at_T61 HR1.out x7_1 p748 q748
        obtain rfl : ad747 = ad748 := (by injection e748)
        replace hx748_0 := hbC HB hx748_0
        replace hx748_1 := hbC HB hx748_1
        replace hx748_2 := hbC HB hx748_2
        replace p748 := eq_true p748
        replace q748 := eq_true q748
        try go_wp2_with (first | ((with_reducible refine gate_builtin (b := .append) (xs := #[.tmp 23, .tmp 32]) rfl ?_); at_builtin; refine Kd.R_append k88 (w0 := w) w.heap.size rfl (.tmp 23) (.tmp 32) 81 88 (.agg #[(.int .i64 0), (.int .i64 0), (.int .i64 0)]) 24 rfl Try.underlying81 info88 rfl (by decide) (by omega) u5 x5_1 (⟨x6_1, (rd_T61 l1 x7_1).f0.f0, 1⟩ : S88) [.int .i64 x6_1, .int .i64 ((rd_T61 l1 x7_1).f0.f0), .int .i64 1] (fun _ => True) (fun _ => False) rfl rfl ?aP (fun _ hk => hk.elim) ?aF ?aO ?aB ?aS ?aL ?_; (case aP => exact k88_mkM _ _ _ (⟨x6_1, (rd_T61 l1 x7_1).f0.f0, 1⟩ : S88)); (case aB => exact (hU HB.out)); (case aF => exact (fun _ _ => trivial)); (case aO => exact (Kd.rU HO_5.out)); (case aS => exact (below_size (hU HB.out))); (case aL => have := LMc8.out; omega); intro v750 w10 ho hb hg hat; rw [← Ny749.out] at ho; have n0_ := Aside0.mk (hb); have n1_ := Aside0.mk (ho); clear HB; clear HO_5; have HB := n0_; have HO751 := n1_; clear n0_ n1_; clear ho hb hg hat))
        have n0_ := Aside0.mk (Kd.R_drew HO751.out)
        have n1_ := Aside0.mk (below_drew1 HB.out)
        clear HO751
        clear HB
        have HO751 := n0_
        have HB := n1_
        clear n0_ n1_
        have p752 : 0 ≤ (x7_1 : Int) := of_decide_eq_true (by first | (with_reducible assumption) | assumption)
        have q752 : x7_1 < (l1.length : Int) := of_decide_eq_true (by first | (with_reducible assumption) | assumption)
        obtain ⟨ad752, e752, hx752_0, hx752_1, hx752_2⟩ := at_T61 HR1.out x7_1 p752 q752
        have hw752_2 := hx752_2
        have hw752_1 := hx752_1
        have hw752_0 := hx752_0
        obtain rfl : ad747 = ad752 := (by injection e752)
        replace hx752_0 := hbC HB hx752_0
        replace hx752_1 := hbC HB hx752_1
        replace hx752_2 := hbC HB hx752_2
        replace p752 := eq_true p752
        replace q752 := eq_true q752
        have p753 : 0 ≤ (x7_1 : Int) := of_decide_eq_true (by first | (with_reducible assumption) | assumption)
        have q753 : x7_1 < (l1.length : Int) := of_decide_eq_true (by first | (with_reducible assumption) | assumption)
        obtain ⟨ad753, e753, hx753_0, hx753_1, hx753_2⟩ := at_T61 HR1.out x7_1 p753 q753
        have hw753_2 := hx753_2
        have hw753_1 := hx753_1
        have hw753_0 := hx753_0
        obtain rfl : ad747 = ad753 := (by injection e753)
        replace hx753_0 := hbC HB hx753_0
        replace hx753_1 := hbC HB hx753_1
        replace hx753_2 := hbC HB hx753_2
        replace p753 := eq_true p753
        replace q753 := eq_true q753
        have p754 : 0 ≤ (x7_1 : Int) := of_decide_eq_true (by first | (with_reducible assumption) | assumption)
        have q754 : x7_1 < (l1.length : Int) := of_decide_eq_true (by first | (with_reducible assumption) | assumption)
        obtain ⟨ad754, e754, hx754_0, hx754_1, hx754_2⟩ := at_T61 HR1.out x7_1 p754 q754
        have hw754_2 := hx754_2
        have hw754_1 := hx754_1
        have hw754_0 := hx754_0
        obtain rfl : ad747 = ad754 := (by injection e754)
        replace hx754_0 := hbC HB hx754_0
        replace hx754_1 := hbC HB hx754_1
        replace hx754_2 := hbC HB hx754_2
        replace p754 := eq_true p754
        replace q754 := eq_true q754
        refine start_ (n := 22) (S := fun w' => w'.cell? (ad747.add ((x7_1).toNat * 3)) = some (.int .i64 ((rd_T61 l1 x7_1).f0.f0)) ∧ w'.cell? ⟨(ad747.add ((x7_1).toNat * 3)).block, (ad747.add ((x7_1).toNat * 3)).off + 1, none⟩ = some (.int .i64 ((rd_T61 l1 x7_1).f0.f1)) ∧ w'.cell? ⟨(ad747.add ((x7_1).toNat * 3)).block, (ad747.add ((x7_1).toNat * 3)).off + 2, none⟩ = some (.int .i64 ((rd_T61 l1 x7_1).f1)) ∧ w'.cell? (ad747.add ((x7_1).toNat * 3)) = some (.int .i64 ((rd_T61 l1 x7_1).f0.f0)) ∧ w'.cell? ⟨(ad747.add ((x7_1).toNat * 3)).block, (ad747.add ((x7_1).toNat * 3)).off + 1, none⟩ = some (.int .i64 ((rd_T61 l1 x7_1).f0.f1)) ∧ w'.cell? ⟨(ad747.add ((x7_1).toNat * 3)).block, (ad747.add ((x7_1).toNat * 3)).off + 2, none⟩ = some (.int .i64 ((rd_T61 l1 x7_1).f1)) ∧ w'.cell? (ad747.add ((x7_1).toNat * 3)) = some (.int .i64 ((rd_T61 l1 x7_1).f0.f0)) ∧ w'.cell? ⟨(ad747.add ((x7_1).toNat * 3)).block, (ad747.add ((x7_1).toNat * 3)).off + 1, none⟩ = some (.int .i64 ((rd_T61 l1 x7_1).f0.f1)) ∧ w'.cell? ⟨(ad747.add ((x7_1).toNat * 3)).block, (ad747.add ((x7_1).toNat * 3)).off + 2, none⟩ = some (.int .i64 ((rd_T61 l1 x7_1).f1))) (ds := []) #[false, false, false, false, false, false, false, false, false, false, false, false, false, false, false, false, false, false, false, false, false, false] (by kernel_rfl) rfl rfl ⟨(hbC HB hw752_0), (hbC HB hw752_1), (hbC HB hw752_2), (hbC HB hw753_0), (hbC HB hw753_1), (hbC HB hw753_2), (hbC HB hw754_0), (hbC HB hw754_1), (hbC HB hw754_2)⟩ (fun hHeld => ?_); refine with_tabW dancestudioref26_Sections.tab7 dancestudioref26_Sections.bits7 (fun HT_ HW_ => ?_)
        generalize w10.drew = w11 at HO751 HB hx752_0 hx752_1 hx752_2 hx753_0 hx753_1 hx753_2 hx754_0 hx754_1 hx754_2 hHeld ⊢
        refine puA 0 34 (bs 22 1) ?_
        refine puA 1 35 (bs 22 3) ?_
        refine puA 2 36 (bs 22 7) ?_
        refine puA 3 37 (bs 22 15) ?_
        refine puA 4 38 (bs 22 31) ?_
        refine puA 5 39 (bs 22 63) ?_
        refine puA 7 41 (bs 22 191) ?_
        refine puA 8 42 (bs 22 447) ?_
        refine puA 9 43 (bs 22 959) ?_
        refine puA 10 44 (bs 22 1983) ?_
        refine puA 11 45 (bs 22 4031) ?_
        refine puA 13 47 (bs 22 12223) ?_
        refine puA 14 48 (bs 22 28607) ?_
        refine puA 15 49 (bs 22 61375) ?_
        refine puA 16 50 (bs 22 126911) ?_
        refine tkA 6 40 (bs 22 126975) hHeld ?_
        refine tkA 12 46 (bs 22 131071) hHeld ?_
        refine tkA 17 51 (bs 22 262143) hHeld ?_
        refine puA 18 52 (bs 22 524287) ?_
        refine one_ (i := 19) (N := some 53) (bs 22 1048575) rfl rfl (one_of HT_.out (by kernel_rfl)) (by decide) (fun K hK => ?_)
        refine value_ (w1 := ?_) (v := ?_) (by rfl) rfl ?_ ?_
        rotate_left 2
        ·go_simp
         constructor
         ·rfl
         ·rfl
        refine hK.out _ _ ⟨(World.cell?_alloc_lt _ _ _ (World.block_lt_of_cell? _ _ ((hbC HB hw752_0)))).trans ((hbC HB hw752_0)), (World.cell?_alloc_lt _ _ _ (World.block_lt_of_cell? _ _ ((hbC HB hw752_1)))).trans ((hbC HB hw752_1)), (World.cell?_alloc_lt _ _ _ (World.block_lt_of_cell? _ _ ((hbC HB hw752_2)))).trans ((hbC HB hw752_2)), (World.cell?_alloc_lt _ _ _ (World.block_lt_of_cell? _ _ ((hbC HB hw753_0)))).trans ((hbC HB hw753_0)), (World.cell?_alloc_lt _ _ _ (World.block_lt_of_cell? _ _ ((hbC HB hw753_1)))).trans ((hbC HB hw753_1)), (World.cell?_alloc_lt _ _ _ (World.block_lt_of_cell? _ _ ((hbC HB hw753_2)))).trans ((hbC HB hw753_2)), (World.cell?_alloc_lt _ _ _ (World.block_lt_of_cell? _ _ ((hbC HB hw754_0)))).trans ((hbC HB hw754_0)), (World.cell?_alloc_lt _ _ _ (World.block_lt_of_cell? _ _ ((hbC HB hw754_1)))).trans ((hbC HB hw754_1)), (World.cell?_alloc_lt _ _ _ (World.block_lt_of_cell? _ _ ((hbC HB hw754_2)))).trans ((hbC HB hw754_2))⟩ (fun hHeld => ?_)
        clear hK K
        refine nmA 53 ?_
        refine one_ (i := 20) (N := some 54) (bs 22 2097151) rfl rfl (one_of HT_.out (by kernel_rfl)) (by decide) (fun K hK => ?_)
        refine Kd.R_append_step k88 (w0 := w) w.heap.size (by rfl) (.tmp 34) (.tmp 53) 81 88 (.agg #[(.int .i64 0), (.int .i64 0), (.int .i64 0)]) 24 rfl Try.underlying81 info88 rfl (by decide) (by omega) v750 y749 (⟨(rd_T61 l1 x7_1).f0.f0, (rd_T61 l1 x7_1).f0.f1, (rd_T61 l1 x7_1).f1⟩ : S88) [.int .i64 ((rd_T61 l1 x7_1).f0.f0), .int .i64 ((rd_T61 l1 x7_1).f0.f1), .int .i64 ((rd_T61 l1 x7_1).f1)] (fun _ => True) (fun _ => False) rfl rfl ?aP (fun _ hk => hk.elim) ?aF ?aO ?aB ?aS ?aL ?_
        (case aP => exact k88_mkM _ _ _ (⟨(rd_T61 l1 x7_1).f0.f0, (rd_T61 l1 x7_1).f0.f1, (rd_T61 l1 x7_1).f1⟩ : S88))
        (case aB => exact (hU HB.out))
        (case aF => exact (fun _ _ => trivial))
        (case aO => exact (Kd.rU HO751.out))
        (case aS => exact (below_size (hU HB.out)))
        (case aL => have := LMc9.out; omega)
        intro v756 w12 ho hb hg hat
        rw [← Ny755.out] at ho
        have n0_ := Aside0.mk (hb)
        have n1_ := Aside0.mk (ho)
        clear HB
        clear HO751
        have HB := n0_
        have HO757 := n1_
        clear n0_ n1_
        clear ho hb hg hat
        refine hK.out _ _ ⟨(hbC HB hw752_0), (hbC HB hw752_1), (hbC HB hw752_2), (hbC HB hw753_0), (hbC HB hw753_1), (hbC HB hw753_2), (hbC HB hw754_0), (hbC HB hw754_1), (hbC HB hw754_2)⟩ (fun hHeld => ?_)
        clear hK K
        refine nmA 54 ?_
        refine puA 21 5 (bs 22 4194303) ?_
        refine done_ (done_of HT_.out (by kernel_rfl)) ?_
        have p758 : 0 ≤ (x7_1 : Int) := of_decide_eq_true (by first | (with_reducible assumption) | assumption)
        have q758 : x7_1 < (l1.length : Int) := of_decide_eq_true (by first | (with_reducible assumption) | assumption)
        obtain ⟨ad758, e758, hx758_0, hx758_1, hx758_2⟩ := at_T61 HR1.out x7_1 p758 q758
        obtain rfl : ad747 = ad758 := (by injection e758)
        replace hx758_0 := hbC HB hx758_0
        replace hx758_1 := hbC HB hx758_1
        replace hx758_2 := hbC HB hx758_2
        replace p758 := eq_true p758
        replace q758 := eq_true q758
        try go_wp2
        go_roundg k1
        case measure => have := HK1.out; omega
        case rel => exact ⟨(y755), ((rd_T61 l1 x7_1).f0.f1), (wrap64 (x7_1 + 1)), (by first | rfl | (simp; done) | (simp [*]; done)), (by first | rfl | (simp; done) | (simp [*]; done)), H', ⟨by have := HK1.out; omega⟩, ⟨by (with_reducible repeat (first | apply Kd.R_alloc | apply Kd.R_drewN | apply Kd.R_drew)); exact HO757.out⟩, ⟨hU HB.out⟩⟩
       ·rw [if_neg c9] at H
        exact absurd H (by simp)
      ·rw [if_neg c8] at H
       exact absurd H (by simp)
     ·rw [if_neg c7] at H
      have c7b0 : decide (x6_1 < ((rd_T61 l1 x7_1).f0.f0)) = false := decide_eq_false c7
      clear c7
      by_cases c13 : x5_1.length < 5864062014805
      ·rw [if_pos c13] at H
       have LMc13 := Aside0.mk c13
       clear c13
       obtain ⟨y762, hy762⟩ : ∃ y_ : List (S88), y_ = (x5_1 ++ [(⟨(rd_T61 l1 x7_1).f0.f0, (rd_T61 l1 x7_1).f0.f1, (rd_T61 l1 x7_1).f1⟩ : S88)]) := ⟨_, rfl⟩
       replace H : (dancestudioref26_Sections.l0 k1 a0 l1 y762 ((rd_T61 l1 x7_1).f0.f1) (wrap64 (x7_1 + 1))) = some r := by first | (rw [hy762]; with_reducible exact H) | (have H2_ := (Option.bind_some _ _).symm.trans H; rw [hy762]; with_reducible exact H2_) | (have H2_ := (Option.bind_some _ _).symm.trans H; with_reducible exact H2_) | with_reducible exact H | (rw [hy762]; exact H) | exact H
       have Ny762 := Aside0.mk hy762
       clear hy762
       have H' := Aside0.mk H
       clear H
       have p747 : 0 ≤ (x7_1 : Int) := of_decide_eq_true (by first | (with_reducible assumption) | assumption)
       have q747 : x7_1 < (l1.length : Int) := of_decide_eq_true (by first | (with_reducible assumption) | assumption)
       obtain ⟨ad747, e747, hx747_0, hx747_1, hx747_2⟩ := at_T61 HR1.out x7_1 p747 q747
       cases e747
       replace hx747_0 := hbC HB hx747_0
       replace hx747_1 := hbC HB hx747_1
       replace hx747_2 := hbC HB hx747_2
       replace p747 := eq_true p747
       replace q747 := eq_true q747
       try go_wp2
       have n0_ := Aside0.mk (Kd.R_drew HO_5.out)
       have n1_ := Aside0.mk (below_drew1 HB.out)
       clear HO_5
       clear HB
       have HO_5 := n0_
       have HB := n1_
       clear n0_ n1_
       have p759 : 0 ≤ (x7_1 : Int) := of_decide_eq_true (by first | (with_reducible assumption) | assumption)
       have q759 : x7_1 < (l1.length : Int) := of_decide_eq_true (by first | (with_reducible assumption) | assumption)
       obtain ⟨ad759, e759, hx759_0, hx759_1, hx759_2⟩ := at_T61 HR1.out x7_1 p759 q759
       have hw759_2 := hx759_2
       have hw759_1 := hx759_1
       have hw759_0 := hx759_0
       obtain rfl : ad747 = ad759 := (by injection e759)
       replace hx759_0 := hbC HB hx759_0
       replace hx759_1 := hbC HB hx759_1
       replace hx759_2 := hbC HB hx759_2
       replace p759 := eq_true p759
       replace q759 := eq_true q759
       have p760 : 0 ≤ (x7_1 : Int) := of_decide_eq_true (by first | (with_reducible assumption) | assumption)
       have q760 : x7_1 < (l1.length : Int) := of_decide_eq_true (by first | (with_reducible assumption) | assumption)
       obtain ⟨ad760, e760, hx760_0, hx760_1, hx760_2⟩ := at_T61 HR1.out x7_1 p760 q760
       have hw760_2 := hx760_2
       have hw760_1 := hx760_1
       have hw760_0 := hx760_0
       obtain rfl : ad747 = ad760 := (by injection e760)
       replace hx760_0 := hbC HB hx760_0
       replace hx760_1 := hbC HB hx760_1
       replace hx760_2 := hbC HB hx760_2
       replace p760 := eq_true p760
       replace q760 := eq_true q760
       have p761 : 0 ≤ (x7_1 : Int) := of_decide_eq_true (by first | (with_reducible assumption) | assumption)
       have q761 : x7_1 < (l1.length : Int) := of_decide_eq_true (by first | (with_reducible assumption) | assumption)
       obtain ⟨ad761, e761, hx761_0, hx761_1, hx761_2⟩ := at_T61 HR1.out x7_1 p761 q761
       have hw761_2 := hx761_2
       have hw761_1 := hx761_1
       have hw761_0 := hx761_0
       obtain rfl : ad747 = ad761 := (by injection e761)
       replace hx761_0 := hbC HB hx761_0
       replace hx761_1 := hbC HB hx761_1
       replace hx761_2 := hbC HB hx761_2
       replace p761 := eq_true p761
       replace q761 := eq_true q761
       refine start_ (n := 22) (S := fun w' => w'.cell? (ad747.add ((x7_1).toNat * 3)) = some (.int .i64 ((rd_T61 l1 x7_1).f0.f0)) ∧ w'.cell? ⟨(ad747.add ((x7_1).toNat * 3)).block, (ad747.add ((x7_1).toNat * 3)).off + 1, none⟩ = some (.int .i64 ((rd_T61 l1 x7_1).f0.f1)) ∧ w'.cell? ⟨(ad747.add ((x7_1).toNat * 3)).block, (ad747.add ((x7_1).toNat * 3)).off + 2, none⟩ = some (.int .i64 ((rd_T61 l1 x7_1).f1)) ∧ w'.cell? (ad747.add ((x7_1).toNat * 3)) = some (.int .i64 ((rd_T61 l1 x7_1).f0.f0)) ∧ w'.cell? ⟨(ad747.add ((x7_1).toNat * 3)).block, (ad747.add ((x7_1).toNat * 3)).off + 1, none⟩ = some (.int .i64 ((rd_T61 l1 x7_1).f0.f1)) ∧ w'.cell? ⟨(ad747.add ((x7_1).toNat * 3)).block, (ad747.add ((x7_1).toNat * 3)).off + 2, none⟩ = some (.int .i64 ((rd_T61 l1 x7_1).f1)) ∧ w'.cell? (ad747.add ((x7_1).toNat * 3)) = some (.int .i64 ((rd_T61 l1 x7_1).f0.f0)) ∧ w'.cell? ⟨(ad747.add ((x7_1).toNat * 3)).block, (ad747.add ((x7_1).toNat * 3)).off + 1, none⟩ = some (.int .i64 ((rd_T61 l1 x7_1).f0.f1)) ∧ w'.cell? ⟨(ad747.add ((x7_1).toNat * 3)).block, (ad747.add ((x7_1).toNat * 3)).off + 2, none⟩ = some (.int .i64 ((rd_T61 l1 x7_1).f1))) (ds := []) #[false, false, false, false, false, false, false, false, false, false, false, false, false, false, false, false, false, false, false, false, false, false] (by kernel_rfl) rfl rfl ⟨(hbC HB hw759_0), (hbC HB hw759_1), (hbC HB hw759_2), (hbC HB hw760_0), (hbC HB hw760_1), (hbC HB hw760_2), (hbC HB hw761_0), (hbC HB hw761_1), (hbC HB hw761_2)⟩ (fun hHeld => ?_); refine with_tabW dancestudioref26_Sections.tab7 dancestudioref26_Sections.bits7 (fun HT_ HW_ => ?_)
       generalize wr.drew = w14 at HO_5 HB hx759_0 hx759_1 hx759_2 hx760_0 hx760_1 hx760_2 hx761_0 hx761_1 hx761_2 hHeld ⊢
       refine puA 0 34 (bs 22 1) ?_
       refine puA 1 35 (bs 22 3) ?_
       refine puA 2 36 (bs 22 7) ?_
       refine puA 3 37 (bs 22 15) ?_
       refine puA 4 38 (bs 22 31) ?_
       refine puA 5 39 (bs 22 63) ?_
       refine puA 7 41 (bs 22 191) ?_
       refine puA 8 42 (bs 22 447) ?_
       refine puA 9 43 (bs 22 959) ?_
       refine puA 10 44 (bs 22 1983) ?_
       refine puA 11 45 (bs 22 4031) ?_
       refine puA 13 47 (bs 22 12223) ?_
       refine puA 14 48 (bs 22 28607) ?_
       refine puA 15 49 (bs 22 61375) ?_
       refine puA 16 50 (bs 22 126911) ?_
       refine tkA 6 40 (bs 22 126975) hHeld ?_
       refine tkA 12 46 (bs 22 131071) hHeld ?_
       refine tkA 17 51 (bs 22 262143) hHeld ?_
       refine puA 18 52 (bs 22 524287) ?_
       refine one_ (i := 19) (N := some 53) (bs 22 1048575) rfl rfl (one_of HT_.out (by kernel_rfl)) (by decide) (fun K hK => ?_)
       refine value_ (w1 := ?_) (v := ?_) (by rfl) rfl ?_ ?_
       rotate_left 2
       ·go_simp
        constructor
        ·rfl
        ·rfl
       refine hK.out _ _ ⟨(World.cell?_alloc_lt _ _ _ (World.block_lt_of_cell? _ _ ((hbC HB hw759_0)))).trans ((hbC HB hw759_0)), (World.cell?_alloc_lt _ _ _ (World.block_lt_of_cell? _ _ ((hbC HB hw759_1)))).trans ((hbC HB hw759_1)), (World.cell?_alloc_lt _ _ _ (World.block_lt_of_cell? _ _ ((hbC HB hw759_2)))).trans ((hbC HB hw759_2)), (World.cell?_alloc_lt _ _ _ (World.block_lt_of_cell? _ _ ((hbC HB hw760_0)))).trans ((hbC HB hw760_0)), (World.cell?_alloc_lt _ _ _ (World.block_lt_of_cell? _ _ ((hbC HB hw760_1)))).trans ((hbC HB hw760_1)), (World.cell?_alloc_lt _ _ _ (World.block_lt_of_cell? _ _ ((hbC HB hw760_2)))).trans ((hbC HB hw760_2)), (World.cell?_alloc_lt _ _ _ (World.block_lt_of_cell? _ _ ((hbC HB hw761_0)))).trans ((hbC HB hw761_0)), (World.cell?_alloc_lt _ _ _ (World.block_lt_of_cell? _ _ ((hbC HB hw761_1)))).trans ((hbC HB hw761_1)), (World.cell?_alloc_lt _ _ _ (World.block_lt_of_cell? _ _ ((hbC HB hw761_2)))).trans ((hbC HB hw761_2))⟩ (fun hHeld => ?_)
       clear hK K
       refine nmA 53 ?_
       refine one_ (i := 20) (N := some 54) (bs 22 2097151) rfl rfl (one_of HT_.out (by kernel_rfl)) (by decide) (fun K hK => ?_)
       refine Kd.R_append_step k88 (w0 := w) w.heap.size (by rfl) (.tmp 34) (.tmp 53) 81 88 (.agg #[(.int .i64 0), (.int .i64 0), (.int .i64 0)]) 24 rfl Try.underlying81 info88 rfl (by decide) (by omega) u5 x5_1 (⟨(rd_T61 l1 x7_1).f0.f0, (rd_T61 l1 x7_1).f0.f1, (rd_T61 l1 x7_1).f1⟩ : S88) [.int .i64 ((rd_T61 l1 x7_1).f0.f0), .int .i64 ((rd_T61 l1 x7_1).f0.f1), .int .i64 ((rd_T61 l1 x7_1).f1)] (fun _ => True) (fun _ => False) rfl rfl ?aP (fun _ hk => hk.elim) ?aF ?aO ?aB ?aS ?aL ?_
       (case aP => exact k88_mkM _ _ _ (⟨(rd_T61 l1 x7_1).f0.f0, (rd_T61 l1 x7_1).f0.f1, (rd_T61 l1 x7_1).f1⟩ : S88))
       (case aB => exact (hU HB.out))
       (case aF => exact (fun _ _ => trivial))
       (case aO => exact (Kd.rU HO_5.out))
       (case aS => exact (below_size (hU HB.out)))
       (case aL => have := LMc13.out; omega)
       intro v763 w15 ho hb hg hat
       rw [← Ny762.out] at ho
       have n0_ := Aside0.mk (hb)
       have n1_ := Aside0.mk (ho)
       clear HB
       clear HO_5
       have HB := n0_
       have HO764 := n1_
       clear n0_ n1_
       clear ho hb hg hat
       refine hK.out _ _ ⟨(hbC HB hw759_0), (hbC HB hw759_1), (hbC HB hw759_2), (hbC HB hw760_0), (hbC HB hw760_1), (hbC HB hw760_2), (hbC HB hw761_0), (hbC HB hw761_1), (hbC HB hw761_2)⟩ (fun hHeld => ?_)
       clear hK K
       refine nmA 54 ?_
       refine puA 21 5 (bs 22 4194303) ?_
       refine done_ (done_of HT_.out (by kernel_rfl)) ?_
       have p765 : 0 ≤ (x7_1 : Int) := of_decide_eq_true (by first | (with_reducible assumption) | assumption)
       have q765 : x7_1 < (l1.length : Int) := of_decide_eq_true (by first | (with_reducible assumption) | assumption)
       obtain ⟨ad765, e765, hx765_0, hx765_1, hx765_2⟩ := at_T61 HR1.out x7_1 p765 q765
       obtain rfl : ad747 = ad765 := (by injection e765)
       replace hx765_0 := hbC HB hx765_0
       replace hx765_1 := hbC HB hx765_1
       replace hx765_2 := hbC HB hx765_2
       replace p765 := eq_true p765
       replace q765 := eq_true q765
       try go_wp2
       go_roundg k1
       case measure => have := HK1.out; omega
       case rel => exact ⟨(y762), ((rd_T61 l1 x7_1).f0.f1), (wrap64 (x7_1 + 1)), (by first | rfl | (simp; done) | (simp [*]; done)), (by first | rfl | (simp; done) | (simp [*]; done)), H', ⟨by have := HK1.out; omega⟩, ⟨by (with_reducible repeat (first | apply Kd.R_alloc | apply Kd.R_drewN | apply Kd.R_drew)); exact HO764.out⟩, ⟨hU HB.out⟩⟩
      ·rw [if_neg c13] at H
       exact absurd H (by simp)
    ·rw [if_neg c6] at H
     exact absurd H (by simp)
   ·rw [if_neg c5] at H
    have c5b0 : decide (x7_1 < (l1.length : Int)) = false := decide_eq_false c5
    clear c5
    by_cases c16 : a0 > x6_1
    ·rw [if_pos c16] at H
     have c16b0 : decide (x6_1 < a0) = true := decide_eq_true c16
     clear c16
     by_cases c17 : x5_1.length < 5864062014805
     ·rw [if_pos c17] at H
      have LMc17 := Aside0.mk c17
      clear c17
      obtain ⟨y766, hy766⟩ : ∃ y_ : List (S88), y_ = (x5_1 ++ [(⟨x6_1, a0, 1⟩ : S88)]) := ⟨_, rfl⟩
      replace H : (some y766) = some r := by first | (rw [hy766]; with_reducible exact H) | (have H2_ := (Option.bind_some _ _).symm.trans H; rw [hy766]; with_reducible exact H2_) | (have H2_ := (Option.bind_some _ _).symm.trans H; with_reducible exact H2_) | with_reducible exact H | (rw [hy766]; exact H) | exact H
      have Ny766 := Aside0.mk hy766
      clear hy766
      obtain rfl := Option.some.inj H
      go_wp2_with (first | ((with_reducible refine gate_builtin (b := .append) (xs := #[.tmp 64, .tmp 68]) rfl ?_); at_builtin; refine Kd.R_append k88 (w0 := w) w.heap.size rfl (.tmp 64) (.tmp 68) 81 88 (.agg #[(.int .i64 0), (.int .i64 0), (.int .i64 0)]) 24 rfl Try.underlying81 info88 rfl (by decide) (by omega) u5 x5_1 (⟨x6_1, a0, 1⟩ : S88) [.int .i64 x6_1, .int .i64 a0, .int .i64 1] (fun _ => True) (fun _ => False) rfl rfl ?aP (fun _ hk => hk.elim) ?aF ?aO ?aB ?aS ?aL ?_; (case aP => exact k88_mkM _ _ _ (⟨x6_1, a0, 1⟩ : S88)); (case aB => exact (hU HB.out)); (case aF => exact (fun _ _ => trivial)); (case aO => exact (Kd.rU HO_5.out)); (case aS => exact (below_size (hU HB.out))); (case aL => have := LMc17.out; omega); intro v767 w18 ho hb hg hat; rw [← Ny766.out] at ho; have n0_ := Aside0.mk (hb); have n1_ := Aside0.mk (ho); clear HB; clear HO_5; have HB := n0_; have HO768 := n1_; clear n0_ n1_; clear ho hb hg hat))
      go_ret
      exact ⟨_, by first | rfl | (simp [errW_none, errW_some] <;> rfl) | (simp [*, errW_none, errW_some] <;> rfl), by (with_reducible repeat (first | apply Kd.R_alloc | apply Kd.R_drewN | apply Kd.R_drew)); exact HO768.out, hU HB.out⟩
     ·rw [if_neg c17] at H
      exact absurd H (by simp)
    ·rw [if_neg c16] at H
     have c16b0 : decide (x6_1 < a0) = false := decide_eq_false c16
     clear c16
     obtain rfl := Option.some.inj H
     go_wp2
     go_ret
     exact ⟨_, by first | rfl | (simp [errW_none, errW_some] <;> rfl) | (simp [*, errW_none, errW_some] <;> rfl), by (with_reducible repeat (first | apply Kd.R_alloc | apply Kd.R_drewN | apply Kd.R_drew)); exact HO_5.out, hU HB.out⟩

end Go.Proofs.Ytdilndbanhianaa.P

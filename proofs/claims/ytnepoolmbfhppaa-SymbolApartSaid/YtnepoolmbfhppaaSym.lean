/- What calls of the package symbol and of its twin of the reference return, as plain functions of the numbers; no condition. -/
import Derived.Deep.Light
import Derived.Test.YtnepoolmbfhppaaSymP
import Derived.Test.YtnepoolmbfhppaaSay
import Derived.Test.YtnepoolmbfhppaaP8
set_option linter.unusedVariables false
set_option linter.unusedSimpArgs false
namespace Go.Proofs.Ytnepoolmbfhppaa.P
open Go.RowKit Go.Proofs.YtnepoolmbfhppaaW.PrintWords Go.Proofs.YtnepoolmbfhppaaW.PrintLast Go.Proofs.YtnepoolmbfhppaaW.PrintMore
theorem bcell {W w1 : World} (hb : Below W.heap.size W w1) : (∀ b o, b < W.heap.size → w1.cell? ⟨b, o, none⟩ = W.cell? ⟨b, o, none⟩) ∧ (∀ b o, b < W.heap.size → w1.frozen? ⟨b, o, none⟩ = W.frozen? ⟨b, o, none⟩) :=
  ⟨fun b o h => hb.cell (p := ⟨b, o, none⟩) h, fun b o h => hb.frozen (p := ⟨b, o, none⟩) h⟩
theorem two_boxes {w w' : World} {o1 o2 : Obj} (hb : Below ((w.alloc o1).alloc o2).heap.size ((w.alloc o1).alloc o2) w') : w'.heap[w.heap.size]? = some o1 ∧ w'.heap[w.heap.size + 1]? = some o2 := by
  have e : (w.alloc o1).heap.size = w.heap.size + 1 := by simp
  refine ⟨(hb.block _ (by simp; omega)).trans (blk_alloc (blk_new w o1) o2), (hb.block _ (by simp)).trans ?_⟩
  rw [← e]
  exact blk_new (w.alloc o1) o2
theorem put7 {w : World} {g : Nat} {t : TypeId} {b0 b1 b2 b3 b4 b5 b6 : Value} (h : w.heap[g]? = some (.cells #[.int .i64 0, .int .i64 0, .int .i64 0, .int .i64 0, .int .i64 0, .int .i64 0, .int .i64 0] t (0, 0))) : (((((((w.setCell ⟨g, 0, none⟩ b0).setCell ⟨g, 1, none⟩ b1).setCell ⟨g, 2, none⟩ b2).setCell ⟨g, 3, none⟩ b3).setCell ⟨g, 4, none⟩ b4).setCell ⟨g, 5, none⟩ b5).setCell ⟨g, 6, none⟩ b6).heap[g]? = some (.cells #[b0, b1, b2, b3, b4, b5, b6] t (0, 0)) := by
  refine blk_put (cs := #[b0, b1, b2, b3, b4, b5, .int .i64 0]) ?_ 6 _ rfl
  refine blk_put (cs := #[b0, b1, b2, b3, b4, .int .i64 0, .int .i64 0]) ?_ 5 _ rfl
  refine blk_put (cs := #[b0, b1, b2, b3, .int .i64 0, .int .i64 0, .int .i64 0]) ?_ 4 _ rfl
  refine blk_put (cs := #[b0, b1, b2, .int .i64 0, .int .i64 0, .int .i64 0, .int .i64 0]) ?_ 3 _ rfl
  refine blk_put (cs := #[b0, b1, .int .i64 0, .int .i64 0, .int .i64 0, .int .i64 0, .int .i64 0]) ?_ 2 _ rfl
  refine blk_put (cs := #[b0, .int .i64 0, .int .i64 0, .int .i64 0, .int .i64 0, .int .i64 0, .int .i64 0]) ?_ 1 _ rfl
  refine blk_put (cs := #[.int .i64 0, .int .i64 0, .int .i64 0, .int .i64 0, .int .i64 0, .int .i64 0, .int .i64 0]) ?_ 0 _ rfl
  exact h
theorem far_set {w : World} {g g' j : Nat} {o : Obj} {u : Value} (h : w.heap[g]? = some o) (hne : g ≠ g') : (w.setCell ⟨g', j, none⟩ u).heap[g]? = some o := (Below.heap_setCell w ⟨g', j, none⟩ u g hne).trans h
theorem Check_use (k c b l d v m : Int) (w : World) : Calls Try.prog 12 #[.agg #[.int .i64 k, .int .i64 c, .int .i64 b, .int .i64 l, .int .i64 d, .int .i64 v, .int .i64 m]] w fun e w' => e = .returned (.int .i64 (chkP k c b l d v m)) ∧ Below w.heap.size w w' :=
  symbol_Check.calls 3 _ _ _ _ _ _ _ _ w (symCheck_eq 1 k c b l d v m)
theorem chk_bounds {k c b l d v m : Int} (h : chkP k c b l d v m = 0) : 1 ≤ k ∧ k ≤ 4 ∧ colP k c ∧ 0 ≤ c ∧ c ≤ 8 ∧ 0 ≤ b ∧ b ≤ 8191 ∧ 1 ≤ l ∧ l ≤ 8192 - b ∧ 0 ≤ d ∧ d ≤ 8 ∧ -1 ≤ v ∧ v ≤ 1 ∧ -16 ≤ m ∧ m ≤ 16 := by
  unfold chkP at h
  split at h
  · omega
  · rename_i h1
    split at h
    · omega
    · rename_i h2
      have h2 := Decidable.not_not.1 h2
      split at h
      · omega
      · rename_i h3
        have hc : 0 ≤ c ∧ c ≤ 8 := by unfold colP at h2; split at h2 <;> (try split at h2) <;> omega
        refine ⟨by omega, by omega, h2, hc.1, hc.2, by omega, by omega, by omega, by omega, ?_⟩
        unfold sayC at h
        split at h
        · split at h
          · split at h <;> omega
          · omega
        · split at h
          · split at h <;> omega
          · split at h
            · unfold ofP at h
              split at h <;> (try split at h) <;> (try split at h) <;> (try split at h) <;> (try split at h) <;> simp_all <;> omega
            · split at h
              · split at h
                · split at h <;> omega
                · omega
              · omega
def mcol (k c : Int) : Int := if k = 3 then (if c = 2 then 3 else if c = 3 then 2 else if c = 5 then 6 else if c = 6 then 5 else c) else 1 - c
def mdir (k d : Int) : Int := if k = 2 ∨ d ≤ 1 then d else 10 - d
/-- The mirror image, and the error. -/
def mirP (k c b l d v m : Int) : Int × Int × Int × Int × Int × Int × Int × Int :=
  if chkP k c b l d v m = 0 then (if k = 4 then (k, c, b, l, d, v, -m, 0) else (k, mcol k c, b, l, mdir k d, v, m, 0)) else (0, 0, 0, 0, 0, 0, 0, chkP k c b l d v m)
theorem dirm_eq (d : Int) (h0 : 0 ≤ d) (h1 : d ≤ 8) : dir_Mirror.f d = some (mdir 1 d, 0) := by
  unfold dir_Mirror.f dir_valid.f mdir
  rw [if_pos h0]
  simp only [Option.bind_some, decide_eq_true_eq, if_pos h1]
  by_cases h : d ≤ 1
  · rw [if_pos h, if_pos (.inr h)]
  · rw [if_neg h, if_neg (by omega), wrap_in _ (by omega) (by omega)]
theorem swap_eq (c : Int) (h0 : 2 ≤ c) (h1 : c < 8) : aim_Swap.f (c - 2) = some (mcol 3 c - 2, 0) := by
  unfold aim_Swap.f mcol
  have h : c = 2 ∨ c = 3 ∨ c = 4 ∨ c = 5 ∨ c = 6 ∨ c = 7 := by omega
  rcases h with rfl | rfl | rfl | rfl | rfl | rfl <;> rfl
set_option maxHeartbeats 1000000 in
set_option maxRecDepth 100000 in
theorem Mirror_use (k c b l d v m r1 r2 r3 r4 r5 r6 r7 r8 : Int) (w : World) (h : (r1, r2, r3, r4, r5, r6, r7, r8) = mirP k c b l d v m) : Calls Try.prog 14 #[.agg #[.int .i64 k, .int .i64 c, .int .i64 b, .int .i64 l, .int .i64 d, .int .i64 v, .int .i64 m]] w fun e w' =>
    e = .returned (.tuple #[.agg #[.int .i64 r1, .int .i64 r2, .int .i64 r3, .int .i64 r4, .int .i64 r5, .int .i64 r6, .int .i64 r7], .int .i64 r8]) ∧ Below w.heap.size w w' := by
  have hu := Try.underlying23
  have H := Aside0.mk h
  clear h
  by_cases h0 : chkP k c b l d v m = 0
  · have hb := chk_bounds h0
    have HK := Aside0.mk hb.2.2.1
    have h1 : 0 ≤ c := hb.2.2.2.1
    have h2 : c ≤ 8 := hb.2.2.2.2.1
    have h3 : 0 ≤ d := hb.2.2.2.2.2.2.2.2.2.1
    have h4 : d ≤ 8 := hb.2.2.2.2.2.2.2.2.2.2.1
    have h5 : -16 ≤ m := hb.2.2.2.2.2.2.2.2.2.2.2.2.2.1
    have h6 : m ≤ 16 := hb.2.2.2.2.2.2.2.2.2.2.2.2.2.2
    have hk : k = 1 ∨ k = 2 ∨ k = 3 ∨ k = 4 := by omega
    have h7 : 0 ≤ mcol 3 c := by unfold mcol; omega
    have h8 : mcol 3 c ≤ 8 := by unfold mcol; omega
    clear hb
    rcases hk with rfl | rfl | rfl | rfl
    all_goals
      go_enter Try.func14, Try.ntmps14
      go_wp2_with (first | (go_at_call 12; refine (Check_use _ _ _ _ _ _ _ _).mono ?_; rintro e w' ⟨rfl, hb⟩; have HB := Aside0.mk hb; obtain ⟨B0, B1⟩ := two_boxes hb; have c0 : w'.cell? ⟨w.heap.size, 0, none⟩ = some (.int .i64 _) := (blk_cell B0 0).trans rfl; have f0 := blk_frozen B0 0; have c1 : w'.cell? ⟨w.heap.size, 1, none⟩ = some (.int .i64 c) := (blk_cell B0 1).trans rfl; have f1 := blk_frozen B0 1; have c2 : w'.cell? ⟨w.heap.size, 2, none⟩ = some (.int .i64 b) := (blk_cell B0 2).trans rfl; have f2 := blk_frozen B0 2; have c3 : w'.cell? ⟨w.heap.size, 3, none⟩ = some (.int .i64 l) := (blk_cell B0 3).trans rfl; have f3 := blk_frozen B0 3; have c4 : w'.cell? ⟨w.heap.size, 4, none⟩ = some (.int .i64 d) := (blk_cell B0 4).trans rfl; have f4 := blk_frozen B0 4; have c5 : w'.cell? ⟨w.heap.size, 5, none⟩ = some (.int .i64 v) := (blk_cell B0 5).trans rfl; have f5 := blk_frozen B0 5; have c6 : w'.cell? ⟨w.heap.size, 6, none⟩ = some (.int .i64 m) := (blk_cell B0 6).trans rfl; have f6 := blk_frozen B0 6; have z0 : w'.cell? ⟨w.heap.size + 1, 0, none⟩ = some (.int .i64 0) := (blk_cell B1 0).trans rfl; have g0 := blk_frozen B1 0; have z1 : w'.cell? ⟨w.heap.size + 1, 1, none⟩ = some (.int .i64 0) := (blk_cell B1 1).trans rfl; have g1 := blk_frozen B1 1; have z2 : w'.cell? ⟨w.heap.size + 1, 2, none⟩ = some (.int .i64 0) := (blk_cell B1 2).trans rfl; have g2 := blk_frozen B1 2; have z3 : w'.cell? ⟨w.heap.size + 1, 3, none⟩ = some (.int .i64 0) := (blk_cell B1 3).trans rfl; have g3 := blk_frozen B1 3; have z4 : w'.cell? ⟨w.heap.size + 1, 4, none⟩ = some (.int .i64 0) := (blk_cell B1 4).trans rfl; have g4 := blk_frozen B1 4; have z5 : w'.cell? ⟨w.heap.size + 1, 5, none⟩ = some (.int .i64 0) := (blk_cell B1 5).trans rfl; have g5 := blk_frozen B1 5; have z6 : w'.cell? ⟨w.heap.size + 1, 6, none⟩ = some (.int .i64 0) := (blk_cell B1 6).trans rfl; have g6 := blk_frozen B1 6; have HB1 := Aside0.mk B1; clear hb B0 B1) | (go_at_call 30; refine (dir_Mirror.calls _ (mdir 1 d) 0 _ (dirm_eq _ h3 h4)).mono ?_; rintro e w' ⟨rfl, ⟨nd, rfl⟩⟩) | (go_at_call 31; refine (aim_Swap.calls _ (mcol 3 c - 2) 0 _ (swap_eq _ (by have h := HK.out; go_light; simp [colP] at h; omega) (by have h := HK.out; go_light; simp [colP] at h; omega))).mono ?_; rintro e w' ⟨rfl, ⟨nd, rfl⟩⟩))
    · refine bodyPost_ret (results_ct rfl _ _ (w.heap.size + 1) 23 #[.int .i64 1, .int .i64 (1 - c), .int .i64 b, .int .i64 l, .int .i64 (mdir 1 d), .int .i64 v, .int .i64 m] (0, 0) _ rfl (by refine put7 ?_; repeat (first | with_reducible exact HB1.out | (with_reducible refine blk_drewN ?_ _) | ((with_reducible refine far_set ?_ ?_); rotate_left; focus (simp; done)))) Try.underlying23 rfl (by kernel_rfl)) rfl ⟨?_, by repeat (first | (with_reducible first | exact Below.refl _ _ | apply below_alloc | apply pw_below_drewN | apply below_drew1) | ((with_reducible refine below_set ?_ ?_); rotate_left; focus (simp; done)) | (with_reducible refine below_step ?_ HB.out))⟩
      have h := H.out
      go_light
      simp [mirP, h0, mdir, mcol] at h
      simp [h, mdir, mcol]
    · refine bodyPost_ret (results_ct rfl _ _ (w.heap.size + 1) 23 #[.int .i64 2, .int .i64 (1 - c), .int .i64 b, .int .i64 l, .int .i64 d, .int .i64 v, .int .i64 m] (0, 0) _ rfl (by refine put7 ?_; repeat (first | with_reducible exact HB1.out | (with_reducible refine blk_drewN ?_ _) | ((with_reducible refine far_set ?_ ?_); rotate_left; focus (simp; done)))) Try.underlying23 rfl (by kernel_rfl)) rfl ⟨?_, by repeat (first | (with_reducible first | exact Below.refl _ _ | apply below_alloc | apply pw_below_drewN | apply below_drew1) | ((with_reducible refine below_set ?_ ?_); rotate_left; focus (simp; done)) | (with_reducible refine below_step ?_ HB.out))⟩
      have h := H.out
      go_light
      simp [mirP, h0, mdir, mcol] at h
      simp [h, mdir, mcol]
    · refine bodyPost_ret (results_ct rfl _ _ (w.heap.size + 1) 23 #[.int .i64 3, .int .i64 (mcol 3 c), .int .i64 b, .int .i64 l, .int .i64 (mdir 1 d), .int .i64 v, .int .i64 m] (0, 0) _ rfl (by refine put7 ?_; repeat (first | with_reducible exact HB1.out | (with_reducible refine blk_drewN ?_ _) | ((with_reducible refine far_set ?_ ?_); rotate_left; focus (simp; done)))) Try.underlying23 rfl (by kernel_rfl)) rfl ⟨?_, by repeat (first | (with_reducible first | exact Below.refl _ _ | apply below_alloc | apply pw_below_drewN | apply below_drew1) | ((with_reducible refine below_set ?_ ?_); rotate_left; focus (simp; done)) | (with_reducible refine below_step ?_ HB.out))⟩
      have h := H.out
      go_light
      simp [mirP, h0, mdir, mcol] at h
      simp [h, mdir, mcol]
    · refine bodyPost_ret (results_ct rfl _ _ (w.heap.size + 1) 23 #[.int .i64 4, .int .i64 c, .int .i64 b, .int .i64 l, .int .i64 d, .int .i64 v, .int .i64 (-m)] (0, 0) _ rfl (by refine put7 ?_; repeat (first | with_reducible exact HB1.out | (with_reducible refine blk_drewN ?_ _) | ((with_reducible refine far_set ?_ ?_); rotate_left; focus (simp; done)))) Try.underlying23 rfl (by kernel_rfl)) rfl ⟨?_, by repeat (first | (with_reducible first | exact Below.refl _ _ | apply below_alloc | apply pw_below_drewN | apply below_drew1) | ((with_reducible refine below_set ?_ ?_); rotate_left; focus (simp; done)) | (with_reducible refine below_step ?_ HB.out))⟩
      have h := H.out
      go_light
      simp [mirP, h0, mdir, mcol] at h
      simp [h, mdir, mcol]
  · have c0 : (chkP k c b l d v m == 0) = false := beq_eq_false_iff_ne.mpr h0
    have c1 : (chkP k c b l d v m != 0) = true := bne_iff_ne.mpr h0
    go_enter Try.func14, Try.ntmps14
    go_wp2_with (first | (go_at_call 12; refine (Check_use _ _ _ _ _ _ _ _).mono ?_; rintro e w' ⟨rfl, hb⟩; have HB := Aside0.mk hb; obtain ⟨B0, B1⟩ := two_boxes hb; have HB1 := Aside0.mk B1; have z0 : w'.cell? ⟨w.heap.size + 1, 0, none⟩ = some (.int .i64 0) := (blk_cell B1 0).trans rfl; have g0 := blk_frozen B1 0; have z1 : w'.cell? ⟨w.heap.size + 1, 1, none⟩ = some (.int .i64 0) := (blk_cell B1 1).trans rfl; have g1 := blk_frozen B1 1; have z2 : w'.cell? ⟨w.heap.size + 1, 2, none⟩ = some (.int .i64 0) := (blk_cell B1 2).trans rfl; have g2 := blk_frozen B1 2; have z3 : w'.cell? ⟨w.heap.size + 1, 3, none⟩ = some (.int .i64 0) := (blk_cell B1 3).trans rfl; have g3 := blk_frozen B1 3; have z4 : w'.cell? ⟨w.heap.size + 1, 4, none⟩ = some (.int .i64 0) := (blk_cell B1 4).trans rfl; have g4 := blk_frozen B1 4; have z5 : w'.cell? ⟨w.heap.size + 1, 5, none⟩ = some (.int .i64 0) := (blk_cell B1 5).trans rfl; have g5 := blk_frozen B1 5; have z6 : w'.cell? ⟨w.heap.size + 1, 6, none⟩ = some (.int .i64 0) := (blk_cell B1 6).trans rfl; have g6 := blk_frozen B1 6; clear hb B0 B1))
    refine bodyPost_ret (results_ct rfl _ _ (w.heap.size + 1) 23 #[.int .i64 0, .int .i64 0, .int .i64 0, .int .i64 0, .int .i64 0, .int .i64 0, .int .i64 0] (0, 0) _ rfl (by refine put7 ?_; repeat (first | with_reducible exact HB1.out | (with_reducible refine blk_drewN ?_ _) | ((with_reducible refine far_set ?_ ?_); rotate_left; focus (simp; done)))) Try.underlying23 rfl (by kernel_rfl)) rfl ⟨?_, by repeat (first | (with_reducible first | exact Below.refl _ _ | apply below_alloc | apply pw_below_drewN | apply below_drew1) | ((with_reducible refine below_set ?_ ?_); rotate_left; focus (simp; done)) | (with_reducible refine below_step ?_ HB.out))⟩
    have h := H.out
    go_light
    simp [mirP, h0] at h
    simp [h]
end Go.Proofs.Ytnepoolmbfhppaa.P

/- the reference's Mirror: what a call returns; no condition. -/
import Derived.Deep.Light
import Derived.Test.YtnepoolmbfhppaaSymP
import Derived.Test.YtnepoolmbfhppaaSym
import Derived.Test.YtnepoolmbfhppaaRSymP
import Derived.Test.YtnepoolmbfhppaaP15
set_option linter.unusedVariables false
set_option linter.unusedSimpArgs false
namespace Go.Proofs.Ytnepoolmbfhppaa.P
open Go.RowKit Go.Proofs.YtnepoolmbfhppaaW.PrintWords Go.Proofs.YtnepoolmbfhppaaW.PrintLast Go.Proofs.YtnepoolmbfhppaaW.PrintMore
theorem RCheck_use (k c b l d v m : Int) (w : World) : Calls Try.prog 11 #[.agg #[.int .i64 k, .int .i64 c, .int .i64 b, .int .i64 l, .int .i64 d, .int .i64 v, .int .i64 m]] w fun e w' => e = .returned (.int .i64 (chkP k c b l d v m)) ∧ Below w.heap.size w w' :=
  dancestudioref23_Check.calls 3 _ _ _ _ _ _ _ _ w (refCheck_eq 0 k c b l d v m)
theorem old_alloc {w : World} {b : Nat} (h : b < w.heap.size) : (∀ o j, (w.alloc o).cell? ⟨b, j, none⟩ = w.cell? ⟨b, j, none⟩) ∧ (∀ o j, (w.alloc o).frozen? ⟨b, j, none⟩ = w.frozen? ⟨b, j, none⟩) := by
  have e : ∀ o : Obj, (w.alloc o).heap[b]? = w.heap[b]? := fun o => Below.heap_alloc w o b h
  exact ⟨fun o j => by simp [World.cell?, e], fun o j => by simp [World.frozen?, e]⟩
def dancestudioref23_Mirror.f (k c b l d v m : Int) : Option (Int × Int × Int × Int × Int × Int × Int × Int) := some (mirP k c b l d v m)
theorem rdirm_eq (d : Int) (h0 : 0 ≤ d) (h1 : d ≤ 8) : dancestudioref16_Mirror.f d = some (mdir 1 d, 0) := by
  unfold dancestudioref16_Mirror.f dancestudioref16_Is.f mdir
  have h : d = 0 ∨ d = 1 ∨ d = 2 ∨ d = 3 ∨ d = 4 ∨ d = 5 ∨ d = 6 ∨ d = 7 ∨ d = 8 := by omega
  rcases h with rfl | rfl | rfl | rfl | rfl | rfl | rfl | rfl | rfl <;> simp [wrap64]
theorem rswap_eq (c : Int) (h0 : 2 ≤ c) (h1 : c < 8) : dancestudioref18_Swap.f (c - 2) = some (mcol 3 c - 2, 0) := by
  unfold dancestudioref18_Swap.f dancestudioref18_limbed.f mcol
  have h : c = 2 ∨ c = 3 ∨ c = 4 ∨ c = 5 ∨ c = 6 ∨ c = 7 := by omega
  rcases h with rfl | rfl | rfl | rfl | rfl | rfl <;> rfl
set_option maxHeartbeats 1000000 in
set_option maxRecDepth 100000 in
theorem dancestudioref23_Mirror.calls (k c b l d v m r1 r2 r3 r4 r5 r6 r7 r8 : Int) (w : World) (h : dancestudioref23_Mirror.f k c b l d v m = some (r1, r2, r3, r4, r5, r6, r7, r8)) : Calls Try.prog 19 #[.agg #[.int .i64 k, .int .i64 c, .int .i64 b, .int .i64 l, .int .i64 d, .int .i64 v, .int .i64 m]] w fun e w' =>
    e = .returned (.tuple #[.agg #[.int .i64 r1, .int .i64 r2, .int .i64 r3, .int .i64 r4, .int .i64 r5, .int .i64 r6, .int .i64 r7], .int .i64 r8]) ∧ Below w.heap.size w w' := by
  have hu := Try.underlying23
  have H := Aside0.mk (Option.some.inj h).symm
  clear h
  by_cases h0 : chkP k c b l d v m = 0
  · have hb := chk_bounds h0
    have HK := Aside0.mk hb.2.2.1
    have h1 : 0 ≤ c := hb.2.2.2.1
    have h2 : c ≤ 8 := hb.2.2.2.2.1
    have h3 : 0 ≤ d := hb.2.2.2.2.2.2.2.2.2.1
    have h4 : d ≤ 8 := hb.2.2.2.2.2.2.2.2.2.2.1
    have h5 : -16 ≤ m := hb.2.2.2.2.2.2.2.2.2.2.2.2.2.1
    have h6 : m ≤ 16 := hb.2.2.2.2.2.2.2.2.2.2.2.2.2.2
    have hk : k = 1 ∨ k = 2 ∨ k = 3 ∨ k = 4 := by omega
    have h7 : 0 ≤ mcol 3 c := by unfold mcol; omega
    have h8 : mcol 3 c ≤ 8 := by unfold mcol; omega
    clear hb
    rcases hk with rfl | rfl | rfl | rfl
    all_goals
      go_enter Try.func19, Try.ntmps19
      go_wp2_with (first | (go_at_call 11; refine (RCheck_use _ _ _ _ _ _ _ _).mono ?_; rintro e w' ⟨rfl, hb⟩; have HB := Aside0.mk hb; obtain ⟨B0, B1⟩ := two_boxes hb; have c0 : w'.cell? ⟨w.heap.size, 0, none⟩ = some (.int .i64 _) := (blk_cell B0 0).trans rfl; have cf0 := blk_frozen B0 0; have c1 : w'.cell? ⟨w.heap.size, 1, none⟩ = some (.int .i64 c) := (blk_cell B0 1).trans rfl; have cf1 := blk_frozen B0 1; have c2 : w'.cell? ⟨w.heap.size, 2, none⟩ = some (.int .i64 b) := (blk_cell B0 2).trans rfl; have cf2 := blk_frozen B0 2; have c3 : w'.cell? ⟨w.heap.size, 3, none⟩ = some (.int .i64 l) := (blk_cell B0 3).trans rfl; have cf3 := blk_frozen B0 3; have c4 : w'.cell? ⟨w.heap.size, 4, none⟩ = some (.int .i64 d) := (blk_cell B0 4).trans rfl; have cf4 := blk_frozen B0 4; have c5 : w'.cell? ⟨w.heap.size, 5, none⟩ = some (.int .i64 v) := (blk_cell B0 5).trans rfl; have cf5 := blk_frozen B0 5; have c6 : w'.cell? ⟨w.heap.size, 6, none⟩ = some (.int .i64 m) := (blk_cell B0 6).trans rfl; have cf6 := blk_frozen B0 6; have hz := hb.size; simp at hz; have z0 : w'.cell? ⟨w.heap.size + 1, 0, none⟩ = some (.int .i64 0) := (blk_cell B1 0).trans rfl; have zf0 := blk_frozen B1 0; have z1 : w'.cell? ⟨w.heap.size + 1, 1, none⟩ = some (.int .i64 0) := (blk_cell B1 1).trans rfl; have zf1 := blk_frozen B1 1; have z2 : w'.cell? ⟨w.heap.size + 1, 2, none⟩ = some (.int .i64 0) := (blk_cell B1 2).trans rfl; have zf2 := blk_frozen B1 2; have z3 : w'.cell? ⟨w.heap.size + 1, 3, none⟩ = some (.int .i64 0) := (blk_cell B1 3).trans rfl; have zf3 := blk_frozen B1 3; have z4 : w'.cell? ⟨w.heap.size + 1, 4, none⟩ = some (.int .i64 0) := (blk_cell B1 4).trans rfl; have zf4 := blk_frozen B1 4; have z5 : w'.cell? ⟨w.heap.size + 1, 5, none⟩ = some (.int .i64 0) := (blk_cell B1 5).trans rfl; have zf5 := blk_frozen B1 5; have z6 : w'.cell? ⟨w.heap.size + 1, 6, none⟩ = some (.int .i64 0) := (blk_cell B1 6).trans rfl; have zf6 := blk_frozen B1 6; obtain ⟨ha0, ha1⟩ := old_alloc (w := w') (b := w.heap.size) (by omega); obtain ⟨ha2, ha3⟩ := old_alloc (w := w') (b := w.heap.size + 1) (by omega); have HB1 := Aside0.mk B1; clear hb B0 B1) | (go_at_call 35; refine (dancestudioref16_Mirror.calls _ (mdir 1 d) 0 _ (rdirm_eq _ h3 h4)).mono ?_; rintro e w' ⟨rfl, ⟨nd, rfl⟩⟩) | (go_at_call 34; refine (dancestudioref18_Swap.calls _ (mcol 3 c - 2) 0 _ (rswap_eq _ (by have h := HK.out; go_light; simp [colP] at h; omega) (by have h := HK.out; go_light; simp [colP] at h; omega))).mono ?_; rintro e w' ⟨rfl, ⟨nd, rfl⟩⟩))
    · refine bodyPost_ret (results_ct rfl _ _ (w.heap.size + 1) 23 #[.int .i64 1, .int .i64 (1 - c), .int .i64 b, .int .i64 l, .int .i64 (mdir 1 d), .int .i64 v, .int .i64 m] (0, 0) _ rfl (by refine put7 ?_; repeat (first | with_reducible exact HB1.out | (with_reducible refine blk_drewN ?_ _) | (with_reducible refine blk_alloc ?_ _) | ((with_reducible refine far_set ?_ ?_); rotate_left; focus (simp; done)) | ((with_reducible refine far_set ?_ ?_); rotate_left; focus (simp; omega)))) Try.underlying23 rfl (by kernel_rfl)) rfl ⟨?_, by repeat (first | (with_reducible first | exact Below.refl _ _ | apply below_alloc | apply pw_below_drewN | apply below_drew1) | ((with_reducible refine below_set ?_ ?_); rotate_left; focus (simp; done)) | ((with_reducible refine below_set ?_ ?_); rotate_left; focus omega) | (with_reducible refine below_step ?_ HB.out))⟩
      have h := H.out
      go_light
      simp [mirP, h0, mdir, mcol] at h
      simp [h, mdir, mcol]
    · refine bodyPost_ret (results_ct rfl _ _ (w.heap.size + 1) 23 #[.int .i64 2, .int .i64 (1 - c), .int .i64 b, .int .i64 l, .int .i64 d, .int .i64 v, .int .i64 m] (0, 0) _ rfl (by refine put7 ?_; repeat (first | with_reducible exact HB1.out | (with_reducible refine blk_drewN ?_ _) | (with_reducible refine blk_alloc ?_ _) | ((with_reducible refine far_set ?_ ?_); rotate_left; focus (simp; done)) | ((with_reducible refine far_set ?_ ?_); rotate_left; focus (simp; omega)))) Try.underlying23 rfl (by kernel_rfl)) rfl ⟨?_, by repeat (first | (with_reducible first | exact Below.refl _ _ | apply below_alloc | apply pw_below_drewN | apply below_drew1) | ((with_reducible refine below_set ?_ ?_); rotate_left; focus (simp; done)) | ((with_reducible refine below_set ?_ ?_); rotate_left; focus omega) | (with_reducible refine below_step ?_ HB.out))⟩
      have h := H.out
      go_light
      simp [mirP, h0, mdir, mcol] at h
      simp [h, mdir, mcol]
    · refine bodyPost_ret (results_ct rfl _ _ (w.heap.size + 1) 23 #[.int .i64 3, .int .i64 (mcol 3 c), .int .i64 b, .int .i64 l, .int .i64 (mdir 1 d), .int .i64 v, .int .i64 m] (0, 0) _ rfl (by refine put7 ?_; repeat (first | with_reducible exact HB1.out | (with_reducible refine blk_drewN ?_ _) | (with_reducible refine blk_alloc ?_ _) | ((with_reducible refine far_set ?_ ?_); rotate_left; focus (simp; done)) | ((with_reducible refine far_set ?_ ?_); rotate_left; focus (simp; omega)))) Try.underlying23 rfl (by kernel_rfl)) rfl ⟨?_, by repeat (first | (with_reducible first | exact Below.refl _ _ | apply below_alloc | apply pw_below_drewN | apply below_drew1) | ((with_reducible refine below_set ?_ ?_); rotate_left; focus (simp; done)) | ((with_reducible refine below_set ?_ ?_); rotate_left; focus omega) | (with_reducible refine below_step ?_ HB.out))⟩
      have h := H.out
      go_light
      simp [mirP, h0, mdir, mcol] at h
      simp [h, mdir, mcol]
    · refine bodyPost_ret (results_ct rfl _ _ (w.heap.size + 1) 23 #[.int .i64 4, .int .i64 c, .int .i64 b, .int .i64 l, .int .i64 d, .int .i64 v, .int .i64 (-m)] (0, 0) _ rfl (by refine put7 ?_; repeat (first | with_reducible exact HB1.out | (with_reducible refine blk_drewN ?_ _) | (with_reducible refine blk_alloc ?_ _) | ((with_reducible refine far_set ?_ ?_); rotate_left; focus (simp; done)) | ((with_reducible refine far_set ?_ ?_); rotate_left; focus (simp; omega)))) Try.underlying23 rfl (by kernel_rfl)) rfl ⟨?_, by repeat (first | (with_reducible first | exact Below.refl _ _ | apply below_alloc | apply pw_below_drewN | apply below_drew1) | ((with_reducible refine below_set ?_ ?_); rotate_left; focus (simp; done)) | ((with_reducible refine below_set ?_ ?_); rotate_left; focus omega) | (with_reducible refine below_step ?_ HB.out))⟩
      have h := H.out
      go_light
      simp [mirP, h0, mdir, mcol] at h
      simp [h, mdir, mcol]
  · have c0 : (chkP k c b l d v m == 0) = false := beq_eq_false_iff_ne.mpr h0
    have c1 : (chkP k c b l d v m != 0) = true := bne_iff_ne.mpr h0
    go_enter Try.func19, Try.ntmps19
    go_wp2_with (first | (go_at_call 11; refine (RCheck_use _ _ _ _ _ _ _ _).mono ?_; rintro e w' ⟨rfl, hb⟩; have HB := Aside0.mk hb; obtain ⟨B0, B1⟩ := two_boxes hb; have HB1 := Aside0.mk B1; have z0 : w'.cell? ⟨w.heap.size + 1, 0, none⟩ = some (.int .i64 0) := (blk_cell B1 0).trans rfl; have zf0 := blk_frozen B1 0; have z1 : w'.cell? ⟨w.heap.size + 1, 1, none⟩ = some (.int .i64 0) := (blk_cell B1 1).trans rfl; have zf1 := blk_frozen B1 1; have z2 : w'.cell? ⟨w.heap.size + 1, 2, none⟩ = some (.int .i64 0) := (blk_cell B1 2).trans rfl; have zf2 := blk_frozen B1 2; have z3 : w'.cell? ⟨w.heap.size + 1, 3, none⟩ = some (.int .i64 0) := (blk_cell B1 3).trans rfl; have zf3 := blk_frozen B1 3; have z4 : w'.cell? ⟨w.heap.size + 1, 4, none⟩ = some (.int .i64 0) := (blk_cell B1 4).trans rfl; have zf4 := blk_frozen B1 4; have z5 : w'.cell? ⟨w.heap.size + 1, 5, none⟩ = some (.int .i64 0) := (blk_cell B1 5).trans rfl; have zf5 := blk_frozen B1 5; have z6 : w'.cell? ⟨w.heap.size + 1, 6, none⟩ = some (.int .i64 0) := (blk_cell B1 6).trans rfl; have zf6 := blk_frozen B1 6; clear hb B0 B1))
    refine bodyPost_ret (results_ct rfl _ _ (w.heap.size + 1) 23 #[.int .i64 0, .int .i64 0, .int .i64 0, .int .i64 0, .int .i64 0, .int .i64 0, .int .i64 0] (0, 0) _ rfl (by refine put7 ?_; repeat (first | with_reducible exact HB1.out | (with_reducible refine blk_drewN ?_ _) | (with_reducible refine blk_alloc ?_ _) | ((with_reducible refine far_set ?_ ?_); rotate_left; focus (simp; done)) | ((with_reducible refine far_set ?_ ?_); rotate_left; focus (simp; omega)))) Try.underlying23 rfl (by kernel_rfl)) rfl ⟨?_, by repeat (first | (with_reducible first | exact Below.refl _ _ | apply below_alloc | apply pw_below_drewN | apply below_drew1) | ((with_reducible refine below_set ?_ ?_); rotate_left; focus (simp; done)) | ((with_reducible refine below_set ?_ ?_); rotate_left; focus omega) | (with_reducible refine below_step ?_ HB.out))⟩
    have h := H.out
    go_light
    simp [mirP, h0] at h
    simp [h]
end Go.Proofs.Ytnepoolmbfhppaa.P

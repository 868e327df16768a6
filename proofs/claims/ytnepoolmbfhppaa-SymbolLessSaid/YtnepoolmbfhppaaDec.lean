/- symbol.Decode: what a call returns; no condition. -/
import Derived.Deep.Light
import Derived.Test.YtnepoolmbfhppaaSymP
import Derived.Test.YtnepoolmbfhppaaSym
import Derived.Test.YtnepoolmbfhppaaSay
set_option linter.unusedVariables false
set_option linter.unusedSimpArgs false
namespace Go.Proofs.Ytnepoolmbfhppaa.P
open Go.RowKit Go.Proofs.YtnepoolmbfhppaaW.PrintWords Go.Proofs.YtnepoolmbfhppaaW.PrintLast Go.Proofs.YtnepoolmbfhppaaW.PrintMore
theorem old_alloc' {w : World} {b : Nat} (h : b < w.heap.size) : (∀ o j, (w.alloc o).cell? ⟨b, j, none⟩ = w.cell? ⟨b, j, none⟩) ∧ (∀ o j, (w.alloc o).frozen? ⟨b, j, none⟩ = w.frozen? ⟨b, j, none⟩) := by
  have e : ∀ o : Obj, (w.alloc o).heap[b]? = w.heap[b]? := fun o => Below.heap_alloc w o b h
  exact ⟨fun o j => by simp [World.cell?, e], fun o j => by simp [World.frozen?, e]⟩
theorem one_box {w w' : World} {o : Obj} (hb : Below (w.alloc o).heap.size (w.alloc o) w') : w'.heap[w.heap.size]? = some o := (hb.block _ (by simp)).trans (blk_new w o)
theorem box_then {w w' : World} {o o' : Obj} {g : Nat} (h : w.heap[g]? = some o) (hb : Below (w.alloc o').heap.size (w.alloc o') w') : w'.heap[g]? = some o ∧ w'.heap[w.heap.size]? = some o' :=
  ⟨(hb.block _ (by simp; exact Nat.lt_succ_of_lt (blk_lt h))).trans (blk_alloc h o'), one_box hb⟩
def decP (n c b l : Int) : Int × Int × Int × Int × Int × Int × Int × Int :=
  match sayP n with
  | (s1, _, _, _, s5, s6, s7, s8) => if s8 = true then (if chkP s1 c b l s5 s6 s7 = 0 then (s1, c, b, l, s5, s6, s7, 0) else (0, 0, 0, 0, 0, 0, 0, chkP s1 c b l s5 s6 s7)) else (0, 0, 0, 0, 0, 0, 0, 2)
def symbol_Decode.f (n c b l : Int) : Option (Int × Int × Int × Int × Int × Int × Int × Int) := if sayOk n = true then some (decP n c b l) else none
set_option maxHeartbeats 1000000 in
set_option maxRecDepth 100000 in
theorem symbol_Decode.calls (n c b l r1 r2 r3 r4 r5 r6 r7 r8 : Int) (w : World) (h : symbol_Decode.f n c b l = some (r1, r2, r3, r4, r5, r6, r7, r8)) : Calls Try.prog 20 #[.int .i64 n, .int .i64 c, .int .i64 b, .int .i64 l] w fun e w' =>
    e = .returned (.tuple #[.agg #[.int .i64 r1, .int .i64 r2, .int .i64 r3, .int .i64 r4, .int .i64 r5, .int .i64 r6, .int .i64 r7], .int .i64 r8]) ∧ Below w.heap.size w w' := by
  have hu := Try.underlying23
  unfold symbol_Decode.f at h
  split at h
  case isFalse => cases h
  rename_i ho
  have H0 := (Option.some.inj h).symm
  clear h
  unfold decP at H0
  obtain ⟨⟨s1, s2, s3, s4, s5, s6, s7, s8⟩, hs⟩ : ∃ p, p = sayP n := ⟨_, rfl⟩
  rw [← hs] at H0
  have HM := Aside0.mk (show symbol_meaning.f n = some (s1, s2, s3, s4, s5, s6, s7, s8) by unfold symbol_meaning.f; rw [if_pos ho, ← hs])
  clear hs ho
  have H := Aside0.mk H0
  clear H0
  cases s8 with
  | false =>
    go_enter Try.func20, Try.ntmps20
    go_wp2_with (first | (go_at_call 36; refine (symbol_meaning.calls _ s1 s2 s3 s4 s5 s6 s7 false _ HM.out).mono ?_; rintro e w1 ⟨rfl, hb⟩; have HB := Aside0.mk hb; have B0 := one_box hb; have HB1 := Aside0.mk B0; have hz := hb.size; simp at hz; have z0 : w1.cell? ⟨w.heap.size, 0, none⟩ = some (.int .i64 0) := (blk_cell B0 0).trans rfl; have zf0 := blk_frozen B0 0; have z1 : w1.cell? ⟨w.heap.size, 1, none⟩ = some (.int .i64 0) := (blk_cell B0 1).trans rfl; have zf1 := blk_frozen B0 1; have z2 : w1.cell? ⟨w.heap.size, 2, none⟩ = some (.int .i64 0) := (blk_cell B0 2).trans rfl; have zf2 := blk_frozen B0 2; have z3 : w1.cell? ⟨w.heap.size, 3, none⟩ = some (.int .i64 0) := (blk_cell B0 3).trans rfl; have zf3 := blk_frozen B0 3; have z4 : w1.cell? ⟨w.heap.size, 4, none⟩ = some (.int .i64 0) := (blk_cell B0 4).trans rfl; have zf4 := blk_frozen B0 4; have z5 : w1.cell? ⟨w.heap.size, 5, none⟩ = some (.int .i64 0) := (blk_cell B0 5).trans rfl; have zf5 := blk_frozen B0 5; have z6 : w1.cell? ⟨w.heap.size, 6, none⟩ = some (.int .i64 0) := (blk_cell B0 6).trans rfl; have zf6 := blk_frozen B0 6; obtain ⟨ha0, ha1⟩ := old_alloc' (w := w1) (b := w.heap.size) (by omega); clear hb B0))
    refine bodyPost_ret (results_ct rfl _ _ w.heap.size 23 #[.int .i64 0, .int .i64 0, .int .i64 0, .int .i64 0, .int .i64 0, .int .i64 0, .int .i64 0] (0, 0) _ rfl (by refine put7 ?_; exact blk_alloc HB1.out _) Try.underlying23 rfl (by kernel_rfl)) rfl ⟨?_, by repeat (first | (with_reducible first | exact Below.refl _ _ | apply below_alloc | apply pw_below_drewN | apply below_drew1) | ((with_reducible refine below_set ?_ ?_); rotate_left; focus (simp; done)) | ((with_reducible refine below_set ?_ ?_); rotate_left; focus omega) | (with_reducible refine below_step ?_ HB.out))⟩
    have h := H.out
    go_light
    simp at h
    simp [h]
  | true =>
    by_cases h0 : chkP s1 c b l s5 s6 s7 = 0
    · have c0 : (chkP s1 c b l s5 s6 s7 == 0) = true := beq_iff_eq.mpr h0
      have c1 : (chkP s1 c b l s5 s6 s7 != 0) = false := bne_eq_false_iff_eq.mpr h0
      go_enter Try.func20, Try.ntmps20
      go_wp2_with (first | (go_at_call 36; refine (symbol_meaning.calls _ s1 s2 s3 s4 s5 s6 s7 true _ HM.out).mono ?_; rintro e w1 ⟨rfl, hb⟩; have HB := Aside0.mk hb; have B0 := one_box hb; have HB1 := Aside0.mk B0; have hz := hb.size; simp at hz; have z0 : w1.cell? ⟨w.heap.size, 0, none⟩ = some (.int .i64 0) := (blk_cell B0 0).trans rfl; have zf0 := blk_frozen B0 0; have z1 : w1.cell? ⟨w.heap.size, 1, none⟩ = some (.int .i64 0) := (blk_cell B0 1).trans rfl; have zf1 := blk_frozen B0 1; have z2 : w1.cell? ⟨w.heap.size, 2, none⟩ = some (.int .i64 0) := (blk_cell B0 2).trans rfl; have zf2 := blk_frozen B0 2; have z3 : w1.cell? ⟨w.heap.size, 3, none⟩ = some (.int .i64 0) := (blk_cell B0 3).trans rfl; have zf3 := blk_frozen B0 3; have z4 : w1.cell? ⟨w.heap.size, 4, none⟩ = some (.int .i64 0) := (blk_cell B0 4).trans rfl; have zf4 := blk_frozen B0 4; have z5 : w1.cell? ⟨w.heap.size, 5, none⟩ = some (.int .i64 0) := (blk_cell B0 5).trans rfl; have zf5 := blk_frozen B0 5; have z6 : w1.cell? ⟨w.heap.size, 6, none⟩ = some (.int .i64 0) := (blk_cell B0 6).trans rfl; have zf6 := blk_frozen B0 6; obtain ⟨ha0, ha1⟩ := old_alloc' (w := w1) (b := w.heap.size) (by omega); clear hb B0) | (go_at_call 12; refine (Check_use _ _ _ _ _ _ _ _).mono ?_; rintro e w' ⟨rfl, hb⟩; have HC := Aside0.mk hb; obtain ⟨B0, B1⟩ := box_then HB1.out hb; have HB2 := Aside0.mk B0; have y0 : w'.cell? ⟨w.heap.size, 0, none⟩ = some (.int .i64 0) := (blk_cell B0 0).trans rfl; have yf0 := blk_frozen B0 0; have y1 : w'.cell? ⟨w.heap.size, 1, none⟩ = some (.int .i64 0) := (blk_cell B0 1).trans rfl; have yf1 := blk_frozen B0 1; have y2 : w'.cell? ⟨w.heap.size, 2, none⟩ = some (.int .i64 0) := (blk_cell B0 2).trans rfl; have yf2 := blk_frozen B0 2; have y3 : w'.cell? ⟨w.heap.size, 3, none⟩ = some (.int .i64 0) := (blk_cell B0 3).trans rfl; have yf3 := blk_frozen B0 3; have y4 : w'.cell? ⟨w.heap.size, 4, none⟩ = some (.int .i64 0) := (blk_cell B0 4).trans rfl; have yf4 := blk_frozen B0 4; have y5 : w'.cell? ⟨w.heap.size, 5, none⟩ = some (.int .i64 0) := (blk_cell B0 5).trans rfl; have yf5 := blk_frozen B0 5; have y6 : w'.cell? ⟨w.heap.size, 6, none⟩ = some (.int .i64 0) := (blk_cell B0 6).trans rfl; have yf6 := blk_frozen B0 6; have x0 : w'.cell? ⟨w1.heap.size, 0, none⟩ = some (.int .i64 s1) := (blk_cell B1 0).trans rfl; have xf0 := blk_frozen B1 0; have x1 : w'.cell? ⟨w1.heap.size, 1, none⟩ = some (.int .i64 c) := (blk_cell B1 1).trans rfl; have xf1 := blk_frozen B1 1; have x2 : w'.cell? ⟨w1.heap.size, 2, none⟩ = some (.int .i64 b) := (blk_cell B1 2).trans rfl; have xf2 := blk_frozen B1 2; have x3 : w'.cell? ⟨w1.heap.size, 3, none⟩ = some (.int .i64 l) := (blk_cell B1 3).trans rfl; have xf3 := blk_frozen B1 3; have x4 : w'.cell? ⟨w1.heap.size, 4, none⟩ = some (.int .i64 s5) := (blk_cell B1 4).trans rfl; have xf4 := blk_frozen B1 4; have x5 : w'.cell? ⟨w1.heap.size, 5, none⟩ = some (.int .i64 s6) := (blk_cell B1 5).trans rfl; have xf5 := blk_frozen B1 5; have x6 : w'.cell? ⟨w1.heap.size, 6, none⟩ = some (.int .i64 s7) := (blk_cell B1 6).trans rfl; have xf6 := blk_frozen B1 6; clear hb B0 B1))
      refine bodyPost_ret (results_ct rfl _ _ w.heap.size 23 #[.int .i64 s1, .int .i64 c, .int .i64 b, .int .i64 l, .int .i64 s5, .int .i64 s6, .int .i64 s7] (0, 0) _ rfl (by refine put7 ?_; exact HB2.out) Try.underlying23 rfl (by kernel_rfl)) rfl ⟨?_, by repeat (first | (with_reducible first | exact Below.refl _ _ | apply below_alloc | apply pw_below_drewN | apply below_drew1) | ((with_reducible refine below_set ?_ ?_); rotate_left; focus (simp; done)) | ((with_reducible refine below_set ?_ ?_); rotate_left; focus omega) | (with_reducible refine below_step ?_ HC.out) | (with_reducible refine below_step ?_ HB.out))⟩
      have h := H.out
      go_light
      simp [h0] at h
      simp [h]
    · have c0 : (chkP s1 c b l s5 s6 s7 == 0) = false := beq_eq_false_iff_ne.mpr h0
      have c1 : (chkP s1 c b l s5 s6 s7 != 0) = true := bne_iff_ne.mpr h0
      go_enter Try.func20, Try.ntmps20
      go_wp2_with (first | (go_at_call 36; refine (symbol_meaning.calls _ s1 s2 s3 s4 s5 s6 s7 true _ HM.out).mono ?_; rintro e w1 ⟨rfl, hb⟩; have HB := Aside0.mk hb; have B0 := one_box hb; have HB1 := Aside0.mk B0; have hz := hb.size; simp at hz; have z0 : w1.cell? ⟨w.heap.size, 0, none⟩ = some (.int .i64 0) := (blk_cell B0 0).trans rfl; have zf0 := blk_frozen B0 0; have z1 : w1.cell? ⟨w.heap.size, 1, none⟩ = some (.int .i64 0) := (blk_cell B0 1).trans rfl; have zf1 := blk_frozen B0 1; have z2 : w1.cell? ⟨w.heap.size, 2, none⟩ = some (.int .i64 0) := (blk_cell B0 2).trans rfl; have zf2 := blk_frozen B0 2; have z3 : w1.cell? ⟨w.heap.size, 3, none⟩ = some (.int .i64 0) := (blk_cell B0 3).trans rfl; have zf3 := blk_frozen B0 3; have z4 : w1.cell? ⟨w.heap.size, 4, none⟩ = some (.int .i64 0) := (blk_cell B0 4).trans rfl; have zf4 := blk_frozen B0 4; have z5 : w1.cell? ⟨w.heap.size, 5, none⟩ = some (.int .i64 0) := (blk_cell B0 5).trans rfl; have zf5 := blk_frozen B0 5; have z6 : w1.cell? ⟨w.heap.size, 6, none⟩ = some (.int .i64 0) := (blk_cell B0 6).trans rfl; have zf6 := blk_frozen B0 6; obtain ⟨ha0, ha1⟩ := old_alloc' (w := w1) (b := w.heap.size) (by omega); clear hb B0) | (go_at_call 12; refine (Check_use _ _ _ _ _ _ _ _).mono ?_; rintro e w' ⟨rfl, hb⟩; have HC := Aside0.mk hb; obtain ⟨B0, B1⟩ := box_then HB1.out hb; have HB2 := Aside0.mk B0; have y0 : w'.cell? ⟨w.heap.size, 0, none⟩ = some (.int .i64 0) := (blk_cell B0 0).trans rfl; have yf0 := blk_frozen B0 0; have y1 : w'.cell? ⟨w.heap.size, 1, none⟩ = some (.int .i64 0) := (blk_cell B0 1).trans rfl; have yf1 := blk_frozen B0 1; have y2 : w'.cell? ⟨w.heap.size, 2, none⟩ = some (.int .i64 0) := (blk_cell B0 2).trans rfl; have yf2 := blk_frozen B0 2; have y3 : w'.cell? ⟨w.heap.size, 3, none⟩ = some (.int .i64 0) := (blk_cell B0 3).trans rfl; have yf3 := blk_frozen B0 3; have y4 : w'.cell? ⟨w.heap.size, 4, none⟩ = some (.int .i64 0) := (blk_cell B0 4).trans rfl; have yf4 := blk_frozen B0 4; have y5 : w'.cell? ⟨w.heap.size, 5, none⟩ = some (.int .i64 0) := (blk_cell B0 5).trans rfl; have yf5 := blk_frozen B0 5; have y6 : w'.cell? ⟨w.heap.size, 6, none⟩ = some (.int .i64 0) := (blk_cell B0 6).trans rfl; have yf6 := blk_frozen B0 6; have x0 : w'.cell? ⟨w1.heap.size, 0, none⟩ = some (.int .i64 s1) := (blk_cell B1 0).trans rfl; have xf0 := blk_frozen B1 0; have x1 : w'.cell? ⟨w1.heap.size, 1, none⟩ = some (.int .i64 c) := (blk_cell B1 1).trans rfl; have xf1 := blk_frozen B1 1; have x2 : w'.cell? ⟨w1.heap.size, 2, none⟩ = some (.int .i64 b) := (blk_cell B1 2).trans rfl; have xf2 := blk_frozen B1 2; have x3 : w'.cell? ⟨w1.heap.size, 3, none⟩ = some (.int .i64 l) := (blk_cell B1 3).trans rfl; have xf3 := blk_frozen B1 3; have x4 : w'.cell? ⟨w1.heap.size, 4, none⟩ = some (.int .i64 s5) := (blk_cell B1 4).trans rfl; have xf4 := blk_frozen B1 4; have x5 : w'.cell? ⟨w1.heap.size, 5, none⟩ = some (.int .i64 s6) := (blk_cell B1 5).trans rfl; have xf5 := blk_frozen B1 5; have x6 : w'.cell? ⟨w1.heap.size, 6, none⟩ = some (.int .i64 s7) := (blk_cell B1 6).trans rfl; have xf6 := blk_frozen B1 6; clear hb B0 B1))
      refine bodyPost_ret (results_ct rfl _ _ w.heap.size 23 #[.int .i64 0, .int .i64 0, .int .i64 0, .int .i64 0, .int .i64 0, .int .i64 0, .int .i64 0] (0, 0) _ rfl (by refine put7 ?_; exact HB2.out) Try.underlying23 rfl (by kernel_rfl)) rfl ⟨?_, by repeat (first | (with_reducible first | exact Below.refl _ _ | apply below_alloc | apply pw_below_drewN | apply below_drew1) | ((with_reducible refine below_set ?_ ?_); rotate_left; focus (simp; done)) | ((with_reducible refine below_set ?_ ?_); rotate_left; focus omega) | (with_reducible refine below_step ?_ HC.out) | (with_reducible refine below_step ?_ HB.out))⟩
      have h := H.out
      go_light
      simp [h0] at h
      simp [h]
end Go.Proofs.Ytnepoolmbfhppaa.P

/- symbol.meaning: what a call returns, for every number; no condition. -/
import Derived.Deep.Light
import Derived.Test.YtnepoolmbfhppaaP0
namespace Go.Proofs.Ytnepoolmbfhppaa.P
open Go.RowKit Go.Proofs.YtnepoolmbfhppaaW.PrintWords Go.Proofs.YtnepoolmbfhppaaW.PrintLast Go.Proofs.YtnepoolmbfhppaaW.PrintMore
set_option linter.unusedVariables false
set_option linter.unusedSimpArgs false
def sayP (c : Int) : Int × Int × Int × Int × Int × Int × Int × Bool :=
  if c = 2000 then (2, 0, 0, 0, 0, 0, 0, true)
  else if 4000 ≤ c ∧ c ≤ 4032 ∧ c ≠ 4016 then (4, 0, 0, 0, 0, 0, c - 4016, true)
  else if c < 0 ∨ (c / 1000 ≠ 1 ∧ c / 1000 ≠ 3) ∨ 8 < c % 1000 / 100 ∨ 1 < c % 1000 % 100 / 30 - 1 ∨ 6 < c % 1000 % 100 % 30 ∨ (c / 1000 = 1 ∧ 0 < c % 1000 % 100 % 30) then (0, 0, 0, 0, 0, 0, 0, false)
  else (c / 1000, 0, 0, 0, c % 1000 / 100, c % 1000 % 100 / 30 - 1, c % 1000 % 100 % 30, true)
def sayOk (c : Int) : Bool := decide (-9223372036854775808 ≤ c ∧ c ≤ 9223372036854775807)
def symbol_meaning.f (c : Int) : Option (Int × Int × Int × Int × Int × Int × Int × Bool) := if sayOk c = true then some (sayP c) else none
set_option maxHeartbeats 1000000 in
set_option maxRecDepth 100000 in
theorem symbol_meaning.pos (a0 r1 r2 r3 r4 r5 r6 r7 : Int) (r8 : Bool) (w : World) (h0 : 0 ≤ a0) (h1 : a0 ≤ 9223372036854775807) (h : (r1, r2, r3, r4, r5, r6, r7, r8) = sayP a0) :
    Calls Try.prog 36 #[.int .i64 a0] w fun e w' => e = .returned (.tuple #[.agg #[.int .i64 r1, .int .i64 r2, .int .i64 r3, .int .i64 r4, .int .i64 r5, .int .i64 r6, .int .i64 r7], .bool r8]) ∧ Below w.heap.size w w' := by
  have hu := Try.underlying23
  have H := Aside0.mk h
  clear h
  go_enter Try.func36, Try.ntmps36
  go_wp2_with (fail)
  all_goals (refine bodyPost_ret (by simp [results, Try.results36, go_sem]; rfl) rfl ⟨?_, by repeat (first | exact Below.refl _ _ | apply below_alloc | apply pw_below_drewN | apply below_drew1 | refine below_set ?_ (by simp))⟩; go_light)
  all_goals
    have h := H.out
    clear H hu
    unfold sayP at h
    (repeat' split at h) <;> first | (simp_all; done) | (exfalso; simp_all; omega) | (exfalso; simp at *; omega)
set_option maxHeartbeats 1000000 in
set_option maxRecDepth 100000 in
theorem symbol_meaning.neg (a0 : Int) (w : World) (h0 : a0 < 0) (h1 : -9223372036854775808 ≤ a0) :
    Calls Try.prog 36 #[.int .i64 a0] w fun e w' => e = .returned (.tuple #[.agg #[.int .i64 0, .int .i64 0, .int .i64 0, .int .i64 0, .int .i64 0, .int .i64 0, .int .i64 0], .bool false]) ∧ Below w.heap.size w w' := by
  have hu := Try.underlying23
  have hk : wrap64 (a0.tdiv 1000) ≤ 0 := by
    have e : a0.tdiv 1000 = -((-a0) / 1000) := by
      rw [← Int.neg_neg a0, Int.neg_tdiv, Int.tdiv_eq_ediv_of_nonneg (by omega), Int.neg_neg]
    rw [e]; unfold wrap64; omega
  have b1 : (wrap64 (a0.tdiv 1000) == 1) = false := by simpa using (by omega : wrap64 (a0.tdiv 1000) ≠ 1)
  have b2 : (wrap64 (a0.tdiv 1000) != 1) = true := by simpa using (by omega : wrap64 (a0.tdiv 1000) ≠ 1)
  have b3 : (wrap64 (a0.tdiv 1000) == 3) = false := by simpa using (by omega : wrap64 (a0.tdiv 1000) ≠ 3)
  have b4 : (wrap64 (a0.tdiv 1000) != 3) = true := by simpa using (by omega : wrap64 (a0.tdiv 1000) ≠ 3)
  have c1 : (a0 == 2000) = false := by simpa using (by omega : a0 ≠ 2000)
  go_enter Try.func36, Try.ntmps36
  go_wp2_with (fail)
  all_goals (refine bodyPost_ret (by simp [results, Try.results36, go_sem]; rfl) rfl ⟨?_, by repeat (first | exact Below.refl _ _ | apply below_alloc | apply pw_below_drewN | apply below_drew1 | refine below_set ?_ (by simp))⟩; go_light)
  all_goals first | rfl | (exfalso; omega) | (exfalso; simp_all; omega)
theorem symbol_meaning.calls (a0 r1 r2 r3 r4 r5 r6 r7 : Int) (r8 : Bool) (w : World) (h : symbol_meaning.f a0 = some (r1, r2, r3, r4, r5, r6, r7, r8)) :
    Calls Try.prog 36 #[.int .i64 a0] w fun e w' => e = .returned (.tuple #[.agg #[.int .i64 r1, .int .i64 r2, .int .i64 r3, .int .i64 r4, .int .i64 r5, .int .i64 r6, .int .i64 r7], .bool r8]) ∧ Below w.heap.size w w' := by
  unfold symbol_meaning.f at h
  split at h
  · rename_i ho
    have ho := of_decide_eq_true ho
    have h := (Option.some.inj h).symm
    by_cases hn : a0 < 0
    · have e : sayP a0 = (0, 0, 0, 0, 0, 0, 0, false) := by
        unfold sayP
        rw [if_neg (by omega), if_neg (by omega), if_pos (.inl hn)]
      rw [e] at h
      simp only [Prod.mk.injEq] at h
      obtain ⟨rfl, rfl, rfl, rfl, rfl, rfl, rfl, rfl⟩ := h
      exact symbol_meaning.neg a0 w hn ho.1
    · exact symbol_meaning.pos a0 r1 r2 r3 r4 r5 r6 r7 r8 w (by omega) ho.2 h
  · cases h
end Go.Proofs.Ytnepoolmbfhppaa.P

/- aim.Of and its twin of the reference: what a call returns, by one walk that parts at its tests; no condition. -/
import Derived.Deep.Light
import Derived.Test.YtekagaimfdbgiaaP0
import Derived.Test.YtekagaimfdbgiaaP11
import Derived.Test.YtekagaimfdbgiaaOf
namespace Go.Proofs.Ytekagaimfdbgiaa.P
open Go.RowKit Go.Proofs.YtekagaimfdbgiaaW.PrintWords Go.Proofs.YtekagaimfdbgiaaW.PrintLast Go.Proofs.YtekagaimfdbgiaaW.PrintMore
set_option linter.unusedVariables false
set_option linter.unusedSimpArgs false

def dancestudioref18_Of.f (a d l b : Int) : Option (Int × Int × Int × Int) := some (ofP a d l b)
theorem dancestudioref18_Of.known_eq (a : Int) : dancestudioref18_limbed.f a = some (knB a) := by
  unfold dancestudioref18_limbed.f knB
  by_cases h : 0 ≤ a <;> simp [h]
theorem dancestudioref18_Of.dcheck_eq (d l : Int) : dancestudioref16_Check.f d l = some (if 0 ≤ d ∧ d ≤ 8 ∧ -1 ≤ l ∧ l ≤ 1 then 0 else 1) := by
  unfold dancestudioref16_Check.f dancestudioref16_Is.f
  repeat' split
  all_goals (simp at *; try omega)
theorem dancestudioref18_Of.eighth_eq (d : Int) (h : 0 ≤ d ∧ d ≤ 8) (h0 : d ≠ 0) : dancestudioref16_Eighth.f d = some (wrap64 (d - 1), 0) := by
  unfold dancestudioref16_Eighth.f dancestudioref16_Is.f
  simp [h.1, h.2, h0]
set_option maxHeartbeats 1000000 in
set_option maxRecDepth 100000 in
theorem dancestudioref18_Of.calls (a0 : Int) (a1_0 : Int) (a1_1 : Int) (a1_2 : Int) (r1 : Int) (r2 : Int) (r3 : Int) (r4 : Int) (w : World) (h : dancestudioref18_Of.f a0 a1_0 a1_1 a1_2 = some (r1, r2, r3, r4)) :
    Calls Try.prog 40 #[.int .i64 a0, .agg #[.int .i64 a1_0, .int .i64 a1_1, .int .i64 a1_2]] w fun e w' => e = .returned (.tuple #[.agg #[.int .i64 r1, .int .i64 r2, .int .i64 r3], .int .i64 r4]) ∧ Below w.heap.size w w' := by
  have hu44 := Try.underlying68
  have hu32 := Try.underlying72
  have H := Aside0.mk (Option.some.inj h).symm
  clear h
  obtain ⟨c, hc⟩ : ∃ c : Int, c = if 0 ≤ a1_0 ∧ a1_0 ≤ 8 ∧ -1 ≤ a1_1 ∧ a1_1 ≤ 1 then 0 else 1 := ⟨_, rfl⟩
  have HC := Aside0.mk hc
  have HD := Aside0.mk (hc ▸ dancestudioref18_Of.dcheck_eq a1_0 a1_1)
  clear hc
  go_enter Try.func40, Try.ntmps40
  go_wp2_with (first | (go_at_call 49; refine (dancestudioref18_limbed.calls _ (knB _) _ (dancestudioref18_Of.known_eq _)).mono ?_; rintro e w' ⟨rfl, ⟨nd, rfl⟩⟩) | (go_at_call 39; refine (dancestudioref16_Check.calls _ _ c _ HD.out).mono ?_; rintro e w' ⟨rfl, ⟨nd, rfl⟩⟩) | (go_at_call 50; refine (dancestudioref16_Eighth.calls _ (wrap64 (a1_0 - 1)) 0 _ (dancestudioref18_Of.eighth_eq _ (by have hc := HC.out; go_light; split at hc <;> simp_all) (by go_light; simp_all))).mono ?_; rintro e w' ⟨rfl, ⟨nd, rfl⟩⟩))
  all_goals (refine bodyPost_ret (by simp [results, Try.results40, go_sem]; rfl) rfl ⟨?_, by repeat (first | exact Below.refl _ _ | apply below_alloc | apply pw_below_drewN | apply below_drew1 | refine below_set ?_ (by simp))⟩; go_light)
  all_goals
    have h := H.out
    have hc := HC.out
    clear H HC HD hu44 hu32
    unfold ofP at h
    unfold knB at *
    (repeat' split at h) <;> (repeat' split at hc) <;> first | (simp_all; done) | (simp_all [wrap64]; done) | (exfalso; simp_all; omega) | (exfalso; simp at *; omega)
end Go.Proofs.Ytekagaimfdbgiaa.P

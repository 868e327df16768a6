/- The plain statement of StaffTakes; no condition. -/
import Derived.Test.YtdilndbanhianaaP32
import Derived.Test.YtdilndbanhianaaUME
import Derived.Test.YtdilndbanhianaaStaffT
import Derived.Test.YtdilndbanhianaaUOpen
set_option linter.unusedVariables false
set_option linter.unusedSimpArgs false
namespace Go.Proofs.Ytdilndbanhianaa.Pure
open Go.RowKit Go.Proofs.Ytdilndbanhianaa.P Go.Proofs.Ytdilndbanhianaa.Open Go.Proofs.YtdilndbanhianaaW.PrintWords Go.Proofs.YtdilndbanhianaaW.PrintLast Go.Proofs.YtdilndbanhianaaW.PrintMore
theorem takes_l0 (l : List S29) (n : Int) (v : StaffOk l n) : ∀ d i : Nat, i + d = l.length → Ev (fun k => dancestudiolaw24_StaffTakes.l0 k l n (i : Int)) true := by
  have hl := v.len
  intro d
  induction d with
  | zero =>
    intro i hi
    refine Ev.succ ?_
    simp only [dancestudiolaw24_StaffTakes.l0, ltI, show ¬ i < l.length by omega, ↓reduceIte]
    exact awt24
  | succ d ih =>
    intro i hi
    have h : i < l.length := by omega
    have ih' := ih (i + 1) (by omega)
    obtain ⟨e1, e2⟩ := take_put v i h
    refine Ev.succ ?_
    have hlen : ((l.take i ++ l.drop (i + 1)).length : Int) = wrap64 ((l.length : Int) - 1) := by
      rw [wrap_in _ (by omega) (by omega), List.length_append, List.length_take, List.length_drop]; omega
    simp only [dancestudiolaw24_StaffTakes.l0, staff_Take.f, staff_Put.f, ltI, h, ge0, ↓reduceIte, rd29_at h, eta29, e1, e2, Option.bind_some, hlen]
    refine Ev.bind (same_refl l (by omega)) ?_
    simp only [↓reduceIte, wrapS h (by omega : l.length ≤ 1000000)]
    exact ih'
theorem StaffTakes (l0 : List S29) (a1 : Int) (a2_0 : Int) (a2_1 : Int) (a2_2 : Int) (a2_3 : Int) (a2_4 : Int) (a2_5 : Int) (a2_6 : Int) (w0 : l0.length ≤ maxLen ∧ l0.length * 56 ≤ 140737488351232 ∧ ∀ y ∈ l0, (okI y.f0 ∧ okI y.f1 ∧ okI y.f2 ∧ okI y.f3 ∧ okI y.f4 ∧ okI y.f5 ∧ okI y.f6)) (w1 : okI a1) (w2_0 : okI a2_0) (w2_1 : okI a2_1) (w2_2 : okI a2_2) (w2_3 : okI a2_3) (w2_4 : okI a2_4) (w2_5 : okI a2_5) (w2_6 : okI a2_6) : ∃ k, dancestudiolaw24_StaffTakes.f k l0 a1 a2_0 a2_1 a2_2 a2_3 a2_4 a2_5 a2_6 = some true := by
  refine Ev.rounds ?_
  unfold dancestudiolaw24_StaffTakes.f staff_Put.f staff_Take.f staff_Check.f
  simp only [Option.bind_some, GT.gt]
  by_cases h : 60 < (l0.length : Int)
  · simp only [h, ↓reduceIte]; exact awt24
  · simp only [h, ↓reduceIte]
    by_cases h1 : chkS l0 a1 = 0
    · have v := (chkS_ok l0 a1).mp h1
      have hl := takes_l0 l0 a1 v l0.length 0 (by omega)
      simp only [h1, ↓reduceIte]
      by_cases h2 : (putP l0 a1 ⟨a2_0, a2_1, a2_2, a2_3, a2_4, a2_5, a2_6⟩).2 = 0
      · obtain ⟨m, hm⟩ : ∃ m, putP l0 a1 ⟨a2_0, a2_1, a2_2, a2_3, a2_4, a2_5, a2_6⟩ = (m, 0) := ⟨_, Prod.ext rfl h2⟩
        obtain ⟨vm, e1, e2⟩ := put_take hm
        simp only at e2
        have e3 : (m.length : Int) = wrap64 ((l0.length : Int) + 1) := by rw [wrap_in _ (by omega) (by omega)]; omega
        have e4 := (chkS_ok m a1).mpr vm
        simp only [hm, e2, e3, e4, ↓reduceIte]
        refine Ev.bind (same_refl l0 (by omega)) ?_
        simp only [↓reduceIte]
        exact hl
      · have e := put_bad h2
        simp only [h2, e, ↓reduceIte, List.length_nil, Int.ofNat_zero]
        exact hl
    · simp only [h1, ↓reduceIte]; exact awt24
end Go.Proofs.Ytdilndbanhianaa.Pure

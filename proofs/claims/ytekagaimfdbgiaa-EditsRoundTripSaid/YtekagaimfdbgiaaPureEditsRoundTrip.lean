/- The plain statement of EditsRoundTrip: an edit is taken back from its bytes, and bytes that are an edit are those of it; no condition. -/
import Derived.Test.YtekagaimfdbgiaaP30
import Derived.Test.YtekagaimfdbgiaaAwakeEq
import Derived.Test.YtekagaimfdbgiaaEditsP
import Derived.Test.YtekagaimfdbgiaaTakeInv
import Derived.Test.YtekagaimfdbgiaaOpen
set_option linter.unusedVariables false
set_option linter.unusedSimpArgs false
namespace Go.Proofs.Ytekagaimfdbgiaa.Pure
open Go.RowKit Go.Proofs.Ytekagaimfdbgiaa.P Go.Proofs.Ytekagaimfdbgiaa.Open Go.Proofs.YtekagaimfdbgiaaW.PrintWords Go.Proofs.YtekagaimfdbgiaaW.PrintLast Go.Proofs.YtekagaimfdbgiaaW.PrintMore
theorem EditsRoundTrip (a0_0 : Int) (a0_1 : Int) (a0_2 : Int) (a0_3 : Int) (a0_4 : Int) (a0_5 : Bool) (a0_6 : Int) (a0_7 : Int) (a0_8 : Int) (a0_9 : Int) (a0_10 : Int) (a0_11 : Int) (a0_12 : Int) (l1 : List Int) (w0_0 : okI a0_0) (w0_1 : okI a0_1) (w0_2 : okI a0_2) (w0_3 : okI a0_3) (w0_4 : okI a0_4) (w0_6 : okI a0_6) (w0_7 : okI a0_7) (w0_8 : okI a0_8) (w0_9 : okI a0_9) (w0_10 : okI a0_10) (w0_11 : okI a0_11) (w0_12 : okI a0_12) (w1 : l1.length ≤ maxLen ∧ l1.length * 1 ≤ 140737488351232 ∧ ∀ y ∈ l1, (0 ≤ y ∧ y ≤ 255)) : ∃ k, dancestudiolaw56_EditsRoundTrip.f k a0_0 a0_1 a0_2 a0_3 a0_4 a0_5 a0_6 a0_7 a0_8 a0_9 a0_10 a0_11 a0_12 l1 = some true := by
  have ok0 : okE a0_0 a0_1 a0_2 a0_3 a0_4 a0_6 a0_7 a0_8 a0_9 a0_10 a0_11 a0_12 := ⟨w0_0, w0_1, w0_2, w0_3, w0_4, w0_6, w0_7, w0_8, w0_9, w0_10, w0_11, w0_12⟩
  have hb : okB l1 := w1.2.2
  have hn : l1.length ≤ 140737488351232 := by have := w1.2.1; omega
  have hp : (putB a0_0 a0_1 a0_2 a0_3 a0_4 a0_5 a0_6 a0_7 a0_8 a0_9 a0_10 a0_11 a0_12).length ≤ 130 := putB_len _ _ _ _ _ _ _ _ _ _ _ _ _
  have hpb : okB (putB a0_0 a0_1 a0_2 a0_3 a0_4 a0_5 a0_6 a0_7 a0_8 a0_9 a0_10 a0_11 a0_12) := putB_ok a0_5 ok0
  refine ⟨l1.length + 200, ?_⟩
  have aw : dancestudiolaw56_awake.f (l1.length + 200) = some true := awake_eq _ (by omega)
  have tk := take_eq (l1.length + 200) l1 (by omega) hb (by omega)
  have t0 := take_eq (l1.length + 200) (putB a0_0 a0_1 a0_2 a0_3 a0_4 a0_5 a0_6 a0_7 a0_8 a0_9 a0_10 a0_11 a0_12) (by omega) hpb (by omega)
  have c1 := check_eq (l1.length + 196) a0_0 a0_1 a0_2 a0_3 a0_4 a0_5 a0_6 a0_7 a0_8 a0_9 a0_10 a0_11 a0_12
  unfold dancestudiolaw56_EditsRoundTrip.f
  rw [put_edit_eq (l1.length + 200) (by omega) a0_5 ok0, Option.bind_some]
  rw [show l1.length + 200 = l1.length + 196 + 4 from rfl, c1, Option.bind_some]
  rw [show l1.length + 196 + 4 = l1.length + 200 from rfl]
  have tl : (∃ e, e ≠ 0 ∧ edits_Take.f (l1.length + 200) l1 = some (errE e)) ∨ ∃ a0 a1 a2 a3 a4 a5 a6 a7 a8 a9 a10 a11 a12, edits_Take.f (l1.length + 200) l1 = some (a0, a1, a2, a3, a4, a5, a6, a7, a8, a9, a10, a11, a12, 0) ∧
      edits_Put.f (l1.length + 200) a0 a1 a2 a3 a4 a5 a6 a7 a8 a9 a10 a11 a12 = some (l1, 0) := by
    rcases take_inv l1 hb with ⟨e, he, h⟩ | ⟨a0, a1, a2, a3, a4, a5, a6, a7, a8, a9, a10, a11, a12, h, hc, ho, hpt⟩
    · exact Or.inl ⟨e, he, by rw [tk, h]⟩
    · exact Or.inr ⟨a0, a1, a2, a3, a4, a5, a6, a7, a8, a9, a10, a11, a12, by rw [tk, h], by rw [put_edit_eq _ (by omega) a5 ho, if_pos hc, hpt]⟩
  by_cases c0 : chkE a0_0 a0_1 a0_2 a0_3 a0_4 a0_5 a0_6 a0_7 a0_8 a0_9 a0_10 a0_11 a0_12 = 0
  · have e0 := take_put a0_5 ok0 c0 []
    rw [List.append_nil] at e0
    rw [e0] at t0
    rw [if_pos c0]
    rcases tl with ⟨e, he, h⟩ | ⟨a0, a1, a2, a3, a4, a5, a6, a7, a8, a9, a10, a11, a12, h, hq⟩
    · simp [c0, t0, h, errE, he, aw]
    · simp [c0, t0, h, hq, aw, dancestudioref07_Bytes.f]
  · rw [if_neg c0]
    rcases tl with ⟨e, he, h⟩ | ⟨a0, a1, a2, a3, a4, a5, a6, a7, a8, a9, a10, a11, a12, h, hq⟩
    · simp [c0, h, errE, he, aw]
    · simp [c0, h, hq, aw, dancestudioref07_Bytes.f]
end Go.Proofs.Ytekagaimfdbgiaa.Pure

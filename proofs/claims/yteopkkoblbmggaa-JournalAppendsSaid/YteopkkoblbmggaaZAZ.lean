/- Texts of this claim in one: JourP; no condition. -/
import Derived.Test.YteopkkoblbmggaaZAY
import Derived.Test.YteopkkoblbmggaaZAH
import Derived.Test.YteopkkoblbmggaaZAW
section
set_option linter.unusedVariables false
set_option linter.unusedSimpArgs false
namespace Go.Proofs.Yteopkkoblbmggaa.P
open Go.RowKit Go.Proofs.YteopkkoblbmggaaW.PrintWords Go.Proofs.YteopkkoblbmggaaW.PrintLast Go.Proofs.YteopkkoblbmggaaW.PrintMore
theorem frameB_len (c : List Int) : (frameB c).length = (enc (c.length : Int)).length + 4 + c.length := by
  unfold frameB fourP
  simp
  omega
theorem append_eq (k : Nat) (hk : 2000 ≤ k) (out : List Int) (ho : out.length ≤ 1000000) {a0 a1 a2 a3 a4 a6 a7 a8 a9 a10 a11 a12 : Int} (a5 : Bool) (h : okE a0 a1 a2 a3 a4 a6 a7 a8 a9 a10 a11 a12) :
    journal_Append.f k out a0 a1 a2 a3 a4 a5 a6 a7 a8 a9 a10 a11 a12 = some (if chkE a0 a1 a2 a3 a4 a5 a6 a7 a8 a9 a10 a11 a12 = 0 then (out ++ frameB (putB a0 a1 a2 a3 a4 a5 a6 a7 a8 a9 a10 a11 a12), 0) else ([], chkE a0 a1 a2 a3 a4 a5 a6 a7 a8 a9 a10 a11 a12)) := by
  unfold journal_Append.f
  rw [put_edit_eq k (by omega) a5 h, Option.bind_some]
  by_cases hz : chkE a0 a1 a2 a3 a4 a5 a6 a7 a8 a9 a10 a11 a12 = 0
  · rw [if_pos hz]
    have hl := putB_len a0 a1 a2 a3 a4 a5 a6 a7 a8 a9 a10 a11 a12
    dsimp only
    rw [if_pos rfl, frame_eq k _ (by omega) (by omega), Option.bind_some]
    dsimp only
    rw [if_pos rfl]
    have he := (enc_len ((putB a0 a1 a2 a3 a4 a5 a6 a7 a8 a9 a10 a11 a12).length : Int)).2
    have hf := frameB_len (putB a0 a1 a2 a3 a4 a5 a6 a7 a8 a9 a10 a11 a12)
    rw [show slices_Clone_byte_byte.f out = some out from by unfold slices_Clone_byte_byte.f; rw [if_pos (by omega)], Option.bind_some, if_pos (by omega), if_pos hz]
  · rw [if_neg hz]
    dsimp only
    rw [if_neg hz, if_neg hz]
theorem rappend_eq (k : Nat) (hk : 2000 ≤ k) (out : List Int) (ho : out.length ≤ 1000000) {a0 a1 a2 a3 a4 a6 a7 a8 a9 a10 a11 a12 : Int} (a5 : Bool) (h : okE a0 a1 a2 a3 a4 a6 a7 a8 a9 a10 a11 a12) :
    dancestudioref58_Append.f k out a0 a1 a2 a3 a4 a5 a6 a7 a8 a9 a10 a11 a12 = some (if chkE a0 a1 a2 a3 a4 a5 a6 a7 a8 a9 a10 a11 a12 = 0 then (out ++ frameB (putB a0 a1 a2 a3 a4 a5 a6 a7 a8 a9 a10 a11 a12), 0) else ([], chkE a0 a1 a2 a3 a4 a5 a6 a7 a8 a9 a10 a11 a12)) := by
  unfold dancestudioref58_Append.f
  obtain ⟨j, hj⟩ : ∃ j, k = j + 5 := ⟨k - 5, by omega⟩
  rw [hj, rcheck_eq, ← hj, Option.bind_some]
  by_cases hz : chkE a0 a1 a2 a3 a4 a5 a6 a7 a8 a9 a10 a11 a12 = 0
  · rw [if_pos hz, if_pos hz, if_pos (by simp; omega), Option.bind_some]
    have hl := putB_len a0 a1 a2 a3 a4 a5 a6 a7 a8 a9 a10 a11 a12
    have he := (enc_len ((putB a0 a1 a2 a3 a4 a5 a6 a7 a8 a9 a10 a11 a12).length : Int)).2
    have hf := frameB_len (putB a0 a1 a2 a3 a4 a5 a6 a7 a8 a9 a10 a11 a12)
    have hr : dancestudioref58_frame.f k a0 a1 a2 a3 a4 a5 a6 a7 a8 a9 a10 a11 a12 = some (frameB (putB a0 a1 a2 a3 a4 a5 a6 a7 a8 a9 a10 a11 a12)) := by
      unfold dancestudioref58_frame.f
      rw [rput_edit_eq k (by omega) a5 h, Option.bind_some, if_pos hz]
      dsimp only
      rw [rframe_eq k _ (by omega) (by omega), Option.bind_some]
    rw [hr, Option.bind_some, List.nil_append, if_pos (by omega)]
  · rw [if_neg hz, if_neg hz]
end Go.Proofs.Yteopkkoblbmggaa.P
end

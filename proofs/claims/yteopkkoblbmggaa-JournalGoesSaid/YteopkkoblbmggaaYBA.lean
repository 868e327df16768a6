/- Texts of this claim in one: PureJournalGoes; no condition. -/
import Derived.Test.YteopkkoblbmggaaYAS
import Derived.Test.YteopkkoblbmggaaYAI
import Derived.Test.YteopkkoblbmggaaYAH
import Derived.Test.YteopkkoblbmggaaYAZ
import Derived.Test.YteopkkoblbmggaaYAO
import Derived.Test.YteopkkoblbmggaaYAJ
import Derived.Test.YteopkkoblbmggaaYAU
import Derived.Test.YteopkkoblbmggaaYAW
import Derived.Test.YteopkkoblbmggaaYAT
import Derived.Test.YteopkkoblbmggaaYAV
section
set_option linter.unusedVariables false
set_option linter.unusedSimpArgs false
namespace Go.Proofs.Yteopkkoblbmggaa.Pure
open Go.RowKit Go.Proofs.Yteopkkoblbmggaa.P Go.Proofs.Yteopkkoblbmggaa.Open Go.Proofs.YteopkkoblbmggaaW.PrintWords Go.Proofs.YteopkkoblbmggaaW.PrintLast Go.Proofs.YteopkkoblbmggaaW.PrintMore
theorem JournalGoes (a0_0 : Int) (l0_1 : List S30) (a1_0 : Int) (a1_1 : Int) (a1_2 : Int) (a1_3 : Int) (a1_4 : Int) (a1_5 : Bool) (a1_6 : Int) (a1_7 : Int) (a1_8 : Int) (a1_9 : Int) (a1_10 : Int) (a1_11 : Int) (a1_12 : Int) (w0_0 : okI a0_0) (w0_1 : l0_1.length ≤ maxLen ∧ l0_1.length * 104 ≤ 140737488351232 ∧ ∀ y ∈ l0_1, zS30 y) (w1_0 : okI a1_0) (w1_1 : okI a1_1) (w1_2 : okI a1_2) (w1_3 : okI a1_3) (w1_4 : okI a1_4) (w1_6 : okI a1_6) (w1_7 : okI a1_7) (w1_8 : okI a1_8) (w1_9 : okI a1_9) (w1_10 : okI a1_10) (w1_11 : okI a1_11) (w1_12 : okI a1_12) : ∃ k, dancestudiolaw58_JournalGoes.f k a0_0 l0_1 a1_0 a1_1 a1_2 a1_3 a1_4 a1_5 a1_6 a1_7 a1_8 a1_9 a1_10 a1_11 a1_12 = some true := by
  have hz : ∀ x ∈ l0_1, zS30 x := fun x hx => w0_1.2.2 x hx
  have ok0 : okE a1_0 a1_1 a1_2 a1_3 a1_4 a1_6 a1_7 a1_8 a1_9 a1_10 a1_11 a1_12 := ⟨w1_0, w1_1, w1_2, w1_3, w1_4, w1_6, w1_7, w1_8, w1_9, w1_10, w1_11, w1_12⟩
  have hx : zS30 (mk30 a1_0 a1_1 a1_2 a1_3 a1_4 a1_5 a1_6 a1_7 a1_8 a1_9 a1_10 a1_11 a1_12) := ⟨⟨w1_0, w1_1⟩, w1_2, ⟨w1_3, w1_4⟩, trivial, ⟨w1_6, w1_7, w1_8, w1_9, w1_10, w1_11, w1_12⟩⟩
  have hE : ∀ e ∈ l0_1, okE30 e := fun e he => zS_okE30 (hz e he)
  refine ⟨100000, ?_⟩
  unfold dancestudiolaw58_JournalGoes.f
  by_cases hl : (l0_1.length : Int) > 40
  · rw [if_pos hl, awake58_eq 100000 (by decide)]; rfl
  rw [if_neg hl, show replica_Check.f a0_0 l0_1 = some (rchkP a0_0 l0_1) by unfold replica_Check.f; rw [if_pos hE], Option.bind_some]
  by_cases hv : rchkP a0_0 l0_1 = 0
  · have hJ := flat_len l0_1
    have hF := frS_len (mk30 a1_0 a1_1 a1_2 a1_3 a1_4 a1_5 a1_6 a1_7 a1_8 a1_9 a1_10 a1_11 a1_12)
    rw [if_pos hv, write_eq 100000 a0_0 l0_1 hz (by decide), Option.bind_some]
    unfold writP
    rw [if_pos hv, join_flat]
    dsimp only
    by_cases hc : chkE a1_0 a1_1 a1_2 a1_3 a1_4 a1_5 a1_6 a1_7 a1_8 a1_9 a1_10 a1_11 a1_12 = 0
    · have hA : journal_Append.f 100000 (l0_1.flatMap frS) a1_0 a1_1 a1_2 a1_3 a1_4 a1_5 a1_6 a1_7 a1_8 a1_9 a1_10 a1_11 a1_12 = some (l0_1.flatMap frS ++ frS (mk30 a1_0 a1_1 a1_2 a1_3 a1_4 a1_5 a1_6 a1_7 a1_8 a1_9 a1_10 a1_11 a1_12), 0) := by
        rw [append_eq 100000 (by decide) (l0_1.flatMap frS) (by omega) a1_5 ok0, if_pos hc]; rfl
      have hB : journal_Append.f 100000 [] a1_0 a1_1 a1_2 a1_3 a1_4 a1_5 a1_6 a1_7 a1_8 a1_9 a1_10 a1_11 a1_12 = some (frS (mk30 a1_0 a1_1 a1_2 a1_3 a1_4 a1_5 a1_6 a1_7 a1_8 a1_9 a1_10 a1_11 a1_12), 0) := by
        rw [append_eq 100000 (by decide) [] (by decide) a1_5 ok0, if_pos hc]; rfl
      have hD : replica_Add.f a0_0 l0_1 a1_0 a1_1 a1_2 a1_3 a1_4 a1_5 a1_6 a1_7 a1_8 a1_9 a1_10 a1_11 a1_12 = some (addP a0_0 l0_1 (mk30 a1_0 a1_1 a1_2 a1_3 a1_4 a1_5 a1_6 a1_7 a1_8 a1_9 a1_10 a1_11 a1_12)) := by
        unfold replica_Add.f
        rw [if_pos ⟨hE, zS_okE30 hx⟩]
      have hc' : chk30 (mk30 a1_0 a1_1 a1_2 a1_3 a1_4 a1_5 a1_6 a1_7 a1_8 a1_9 a1_10 a1_11 a1_12) = 0 := hc
      rw [hA, hB, hD, Option.bind_some, Option.bind_some]
      generalize mk30 a1_0 a1_1 a1_2 a1_3 a1_4 a1_5 a1_6 a1_7 a1_8 a1_9 a1_10 a1_11 a1_12 = y at *
      have hok : okB (l0_1.flatMap frS ++ frS y) := fun v hv => by
        rcases List.mem_append.1 hv with hv | hv
        · exact flat_ok hz v hv
        · exact frS_ok hx v hv
      have hll : (l0_1.flatMap frS ++ frS y).length ≤ 6200 := by rw [List.length_append]; omega
      dsimp only
      rw [if_pos rfl, if_pos rfl, if_pos rfl, Option.bind_some, if_pos (by simp only [List.length_nil]; omega), Option.bind_some, List.nil_append, if_pos (by omega)]
      unfold dancestudioref58_Bytes.f
      rw [Option.bind_some, if_pos (by simp), rec_eq 100000 a0_0 _ hok (by omega) (by omega), Option.bind_some, rec_one a0_0 l0_1 hv hz y hx hc', Option.bind_some]
      generalize hr : addP a0_0 l0_1 y = r
      obtain ⟨d', l', f⟩ := r
      dsimp only
      by_cases hf : f = 0
      · subst hf
        obtain ⟨-, g2, rfl⟩ := addP_ok hr hE (zS_okE30 hx)
        rw [if_pos rfl]
        dsimp only
        rw [if_pos rfl, if_pos rfl, same_self 100000 _ l' (by omega) (by omega), Option.bind_some, if_pos rfl, if_pos rfl, awake58_eq 100000 (by decide)]
        rfl
      · rw [if_neg hf]
        dsimp only
        rw [if_pos rfl, if_neg hf, same_self 100000 _ l0_1 (by omega) (by omega), Option.bind_some, if_pos rfl, if_pos rfl, awake58_eq 100000 (by decide)]
        rfl
    · have hA : journal_Append.f 100000 (l0_1.flatMap frS) a1_0 a1_1 a1_2 a1_3 a1_4 a1_5 a1_6 a1_7 a1_8 a1_9 a1_10 a1_11 a1_12 = some ([], chkE a1_0 a1_1 a1_2 a1_3 a1_4 a1_5 a1_6 a1_7 a1_8 a1_9 a1_10 a1_11 a1_12) := by
        rw [append_eq 100000 (by decide) (l0_1.flatMap frS) (by omega) a1_5 ok0, if_neg hc]
      rw [hA, Option.bind_some]
      dsimp only
      rw [if_pos rfl, if_neg hc, if_pos (by rfl), awake58_eq 100000 (by decide)]
      rfl
  · rw [if_neg hv, awake58_eq 100000 (by decide)]; rfl
end Go.Proofs.Yteopkkoblbmggaa.Pure
end

/- Texts of this claim in one: PureJournalCuts; no condition. -/
import Derived.Test.YteopkkoblbmggaaYAS
import Derived.Test.YteopkkoblbmggaaYAI
import Derived.Test.YteopkkoblbmggaaYAH
import Derived.Test.YteopkkoblbmggaaYAX
import Derived.Test.YteopkkoblbmggaaYAJ
import Derived.Test.YteopkkoblbmggaaYAU
import Derived.Test.YteopkkoblbmggaaYAW
import Derived.Test.YteopkkoblbmggaaYAV
section
set_option linter.unusedVariables false
set_option linter.unusedSimpArgs false
namespace Go.Proofs.Yteopkkoblbmggaa.P
open Go.RowKit Go.Proofs.Yteopkkoblbmggaa.Open Go.Proofs.YteopkkoblbmggaaW.PrintWords Go.Proofs.YteopkkoblbmggaaW.PrintLast Go.Proofs.YteopkkoblbmggaaW.PrintMore
/-- How many frames lie whole within c bytes. -/
def cutN (c : Int) (l : List S30) : Nat → Nat
  | 0 => 0
  | i + 1 => if (((l.take (i + 1)).flatMap frS).length : Int) ≤ c then i + 1 else cutN c l i
theorem cutN_spec (c : Int) (hc : 0 ≤ c) (l : List S30) : ∀ i, cutN c l i ≤ i ∧ (((l.take (cutN c l i)).flatMap frS).length : Int) ≤ c ∧ ∀ j, cutN c l i < j → j ≤ i → c < (((l.take j).flatMap frS).length : Int)
  | 0 => ⟨Nat.le_refl _, by simpa [cutN] using hc, fun j h1 h2 => by unfold cutN at h1; omega⟩
  | i + 1 => by
    have ih := cutN_spec c hc l i
    unfold cutN
    split
    · rename_i h
      exact ⟨Nat.le_refl _, h, fun j h1 h2 => by omega⟩
    · rename_i h
      refine ⟨by omega, ih.2.1, fun j h1 h2 => ?_⟩
      rcases Nat.lt_or_ge i j with h3 | h3
      · obtain rfl : j = i + 1 := by omega
        omega
      · exact ih.2.2 j h1 h3
/-- Recover over a journal that is cut. -/
theorem rec_cut (d : Int) (l : List S30) (hv : rchkP d l = 0) (hz : ∀ x ∈ l, zS30 x) (c : Nat) (hc : c ≤ (l.flatMap frS).length) :
    recP d ((l.flatMap frS).take c) = (d, l.take (cutN c l l.length), (((l.take (cutN c l l.length)).flatMap frS).length : Int), 0) := by
  obtain ⟨h1, h2, h3⟩ := cutN_spec c (by omega) l l.length
  generalize cutN (c : Int) l l.length = m at *
  obtain ⟨rest, hr, hop⟩ : ∃ rest, (l.flatMap frS).take c = (l.take m).flatMap frS ++ rest ∧ (openP rest).2.2 ≠ 0 := by
    rcases Nat.lt_or_ge m l.length with hm | hm
    · have h4 := h3 (m + 1) (by omega) (by omega)
      have e : l.flatMap frS = (l.take m).flatMap frS ++ (frS l[m] ++ (l.drop (m + 1)).flatMap frS) := by
        conv => lhs; rw [← List.take_append_drop m l, List.drop_eq_getElem_cons hm]
        rw [List.flatMap_append, List.flatMap_cons]
      rw [take_succ' hm, List.flatMap_append, List.length_append] at h4
      simp only [List.flatMap_cons, List.flatMap_nil, List.append_nil] at h4
      refine ⟨(frS l[m]).take (c - ((l.take m).flatMap frS).length), ?_, ?_⟩
      · rw [e, List.take_append, List.take_of_length_le (by omega), List.take_append_of_le_length (by omega)]
      · rw [frS_con, open_cut _ (conS_len _) _ (by rw [← frS_con]; omega)]
        decide
    · refine ⟨[], ?_, by rw [open_nil]; decide⟩
      rw [List.take_of_length_le hm] at h2 ⊢
      rw [List.append_nil, List.take_of_length_le (by omega)]
  rw [hr, rec_prefix d l hv hz m h1 rest, rcv_stop _ _ _ _ _ (.inl (by rw [List.drop_left' rfl]; exact hop))]
theorem rec_all (d : Int) (l : List S30) (hv : rchkP d l = 0) (hz : ∀ x ∈ l, zS30 x) : recP d (l.flatMap frS) = (d, l, ((l.flatMap frS).length : Int), 0) := by
  have h := rec_prefix d l hv hz l.length (Nat.le_refl _) []
  rw [List.take_of_length_le (Nat.le_refl _), List.append_nil] at h
  rw [h, rcv_nil _ _ _ _ _ (List.drop_of_length_le (Nat.le_refl _))]
theorem rd30_el {l : List S30} {i : Nat} (h : i < l.length) : rd_T30 l (i : Int) = l[i] := by
  unfold rd_T30
  rw [Int.toNat_natCast, List.getD_eq_getElem?_getD, List.getElem?_eq_getElem h]
  rfl
theorem cuts_l0 (d : Int) (l : List S30) (hl : l.length ≤ 40) (hz : ∀ x ∈ l, zS30 x) (hc : ∀ x ∈ l, chk30 x = 0) (J : List Int) (c : Int) : ∀ (m i k : Nat), l.length - i = m → i ≤ l.length → 3000 ≤ k →
    dancestudiolaw58_JournalCuts.l0 (k + m) J c ((l.take i).flatMap frS) (((l.take (cutN c l i)).flatMap frS).length : Int) (cutN c l i : Int) (i : Int) d l
      = dancestudiolaw58_JournalCuts.l0 k J c (l.flatMap frS) (((l.take (cutN c l l.length)).flatMap frS).length : Int) (cutN c l l.length : Int) (l.length : Int) d l
  | 0, i, k, hm, hi, hk => by
    obtain rfl : i = l.length := by omega
    rw [List.take_of_length_le (Nat.le_refl _)]
    rfl
  | m + 1, i, k, hm, hi, hk => by
    have hi' : i < l.length := by omega
    have hfl := flat_len (l.take i)
    rw [List.length_take] at hfl
    rw [← cuts_l0 d l hl hz hc J c m (i + 1) k (by omega) (by omega) hk, ← Nat.add_assoc]
    have hci : chk30 l[i] = 0 := hc _ (List.getElem_mem hi')
    unfold chk30 at hci
    have hA : journal_Append.f (k + m) ((l.take i).flatMap frS) l[i].f0.f0 l[i].f0.f1 l[i].f1 l[i].f2.f0 l[i].f2.f1 l[i].f3 l[i].f4.f0 l[i].f4.f1 l[i].f4.f2 l[i].f4.f3 l[i].f4.f4 l[i].f4.f5 l[i].f4.f6 = some ((l.take (i + 1)).flatMap frS, 0) := by
      rw [append_eq (k + m) (by omega) _ (by omega) l[i].f3 (zS_okE (hz _ (List.getElem_mem hi'))), if_pos hci, take_succ' hi', List.flatMap_append, List.flatMap_cons, List.flatMap_nil, List.append_nil]
      rfl
    conv => lhs; unfold dancestudiolaw58_JournalCuts.l0
    rw [if_pos (by omega), if_pos (by omega), rd30_el hi', hA, Option.bind_some]
    dsimp only
    have hw : wrap64 ((i : Int) + 1) = ((i + 1 : Nat) : Int) := by unfold wrap64; omega
    rw [if_pos rfl, hw]
    conv => rhs; unfold cutN
    split <;> rfl
end Go.Proofs.Yteopkkoblbmggaa.P
namespace Go.Proofs.Yteopkkoblbmggaa.Pure
open Go.RowKit Go.Proofs.Yteopkkoblbmggaa.P Go.Proofs.Yteopkkoblbmggaa.Open Go.Proofs.YteopkkoblbmggaaW.PrintWords Go.Proofs.YteopkkoblbmggaaW.PrintLast Go.Proofs.YteopkkoblbmggaaW.PrintMore
theorem JournalCuts (a0_0 : Int) (l0_1 : List S30) (a1 : Int) (w0_0 : okI a0_0) (w0_1 : l0_1.length ≤ maxLen ∧ l0_1.length * 104 ≤ 140737488351232 ∧ ∀ y ∈ l0_1, zS30 y) (w1 : (Lit.int .u16 a1).wf = true) : ∃ k, dancestudiolaw58_JournalCuts.f k a0_0 l0_1 a1 = some true := by
  have hz : ∀ x ∈ l0_1, zS30 x := fun x hx => w0_1.2.2 x hx
  have hE : ∀ e ∈ l0_1, okE30 e := fun e he => zS_okE30 (hz e he)
  have ha : 0 ≤ a1 ∧ a1 ≤ 65535 := by
    have e1 : IntKind.u16.min = 0 := rfl
    have e2 : IntKind.u16.max = 65535 := rfl
    simp only [Lit.wf, e1, e2, Bool.and_eq_true, decide_eq_true_eq] at w1
    exact w1
  refine ⟨100000 + 1 + l0_1.length, ?_⟩
  unfold dancestudiolaw58_JournalCuts.f
  by_cases hl : (l0_1.length : Int) > 40
  · rw [if_pos hl, awake58_eq _ (by omega)]; rfl
  rw [if_neg hl, show replica_Check.f a0_0 l0_1 = some (rchkP a0_0 l0_1) by unfold replica_Check.f; rw [if_pos hE], Option.bind_some]
  by_cases hv : rchkP a0_0 l0_1 = 0
  · have hJ := flat_len l0_1
    have hc := chkL_all (rchk_ord hv).2.2.1
    rw [if_pos hv, write_eq _ a0_0 l0_1 hz (by omega), Option.bind_some]
    unfold writP
    rw [if_pos hv, join_flat]
    dsimp only
    have w0 : wrap64 (((l0_1.flatMap frS).length : Int) + 1) = ((l0_1.flatMap frS).length : Int) + 1 := by unfold wrap64; omega
    have w2 : wrap64 a1 = a1 := by unfold wrap64; omega
    rw [if_pos rfl, w0, w2, if_neg (by omega), Int.tmod_eq_emod_of_nonneg ha.1]
    obtain ⟨c, hcc⟩ : ∃ c : Nat, a1 % (((l0_1.flatMap frS).length : Int) + 1) = (c : Int) := ⟨(a1 % (((l0_1.flatMap frS).length : Int) + 1)).toNat, by have := Int.emod_nonneg a1 (b := ((l0_1.flatMap frS).length : Int) + 1) (by omega); omega⟩
    have hcl : c ≤ (l0_1.flatMap frS).length := by have := Int.emod_lt_of_pos a1 (b := ((l0_1.flatMap frS).length : Int) + 1) (by omega); omega
    rw [hcc]
    have h := cuts_l0 a0_0 l0_1 (by omega) hz hc (l0_1.flatMap frS) (c : Int) l0_1.length 0 (100000 + 1) (by omega) (by omega) (by omega)
    rw [List.take_zero] at h
    refine Eq.trans h ?_
    obtain ⟨h1, h2, h3⟩ := cutN_spec c (by omega) l0_1 l0_1.length
    have hr1 := rec_cut a0_0 l0_1 hv hz c hcl
    generalize cutN (c : Int) l0_1 l0_1.length = m at *
    unfold dancestudiolaw58_JournalCuts.l0 dancestudioref58_Bytes.f
    rw [if_neg (by omega), Option.bind_some, if_pos (by simp), if_pos (by omega), if_pos (by omega), Int.toNat_natCast,
      rec_eq 100000 a0_0 _ (fun v hv => flat_ok hz v (List.mem_of_mem_take hv)) (by rw [List.length_take]; omega) (by rw [List.length_take]; omega), rec_eq 100000 a0_0 _ (flat_ok hz) (by omega) (by omega), hr1, rec_all a0_0 l0_1 hv hz, Option.bind_some, Option.bind_some]
    dsimp only
    rw [if_pos rfl, if_pos rfl, if_pos rfl, if_pos rfl, if_pos rfl, if_pos (by omega), if_pos (by omega), Int.toNat_natCast, edits_self 100000 _ (by rw [List.length_take]; omega) (by rw [List.length_take]; omega), Option.bind_some, if_pos rfl, same_self 100000 _ l0_1 (by omega) (by omega), Option.bind_some, if_pos rfl, awake58_eq 100000 (by decide)]
    rfl
  · rw [if_neg hv, awake58_eq _ (by omega)]; rfl
end Go.Proofs.Yteopkkoblbmggaa.Pure
end

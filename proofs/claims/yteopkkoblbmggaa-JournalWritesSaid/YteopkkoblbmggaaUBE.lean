/- Texts of this claim in one: VKeepP, PureJournalWrites; no condition. -/
import Derived.Test.YteopkkoblbmggaaUAD
import Derived.Test.YteopkkoblbmggaaUAI
import Derived.Test.YteopkkoblbmggaaUAK
import Derived.Test.YteopkkoblbmggaaUBD
import Derived.Test.YteopkkoblbmggaaUBA
import Derived.Test.YteopkkoblbmggaaUAH
section
set_option linter.unusedVariables false
set_option linter.unusedSimpArgs false
namespace Go.Proofs.Yteopkkoblbmggaa.P
open Go.RowKit Go.Proofs.YteopkkoblbmggaaW.PrintWords Go.Proofs.YteopkkoblbmggaaW.PrintLast Go.Proofs.YteopkkoblbmggaaW.PrintMore
def sgB (l : List S30) (c d : Int) (x : Nat) : Prop := (rd_T30 l (x : Int)).f2.f0 = c ∧ (rd_T30 l (x : Int)).f2.f1 = d
theorem fst_spec (l : List S30) (c d : Int) : ∀ n, n ≤ l.length → match fstF l n c d with
    | none => ∀ x, x < n → ¬ sgB l c d x
    | some j => j < n ∧ sgB l c d j ∧ ∀ x, x < j → ¬ sgB l c d x
  | 0, _ => fun x hx => by omega
  | n + 1, hn => by
    have ih := fst_spec l c d n (by omega)
    have hlt : n < l.length := by omega
    unfold fstF
    cases hq : fstF l n c d with
    | some j =>
      rw [hq] at ih
      exact ⟨by have := ih.1; omega, ih.2.1, ih.2.2⟩
    | none =>
      rw [hq] at ih
      dsimp only
      rw [dif_pos hlt]
      by_cases h : l[n].f2.f0 = c ∧ l[n].f2.f1 = d
      · rw [if_pos h]
        exact ⟨by omega, by unfold sgB; rw [rd30_at hlt]; exact h, ih⟩
      · rw [if_neg h]
        intro x hx
        rcases Nat.lt_or_ge x n with h2 | h2
        · exact ih x h2
        · obtain rfl : x = n := by omega
          unfold sgB
          rw [rd30_at hlt]
          exact h
theorem lst_spec (l : List S30) (c d : Int) : ∀ n, n ≤ l.length → match lstF l n c d with
    | none => ∀ x, x < n → ¬ sgB l c d x
    | some j => j < n ∧ sgB l c d j ∧ ∀ x, j < x → x < n → ¬ sgB l c d x
  | 0, _ => fun x hx => by omega
  | n + 1, hn => by
    have ih := lst_spec l c d n (by omega)
    have hlt : n < l.length := by omega
    unfold lstF
    rw [dif_pos hlt]
    by_cases h : l[n].f2.f0 = c ∧ l[n].f2.f1 = d
    · rw [if_pos h]
      exact ⟨by omega, by unfold sgB; rw [rd30_at hlt]; exact h, fun x h1 h2 => by omega⟩
    · rw [if_neg h]
      have hn2 : ¬ sgB l c d n := by unfold sgB; rw [rd30_at hlt]; exact h
      cases hq : lstF l n c d with
      | some j =>
        rw [hq] at ih
        refine ⟨by have := ih.1; omega, ih.2.1, fun x h1 h2 => ?_⟩
        rcases Nat.lt_or_ge x n with h3 | h3
        · exact ih.2.2 x h1 h3
        · obtain rfl : x = n := by omega
          exact hn2
      | none =>
        rw [hq] at ih
        intro x hx
        rcases Nat.lt_or_ge x n with h3 | h3
        · exact ih x h3
        · obtain rfl : x = n := by omega
          exact hn2
theorem flS_spec (l : List S30) (i : Nat) (g : Nat → Bool) : ∀ m x, flS l i g m x = true ↔ ∀ y, x ≤ y → y < x + m → smS l y i = true → g y = true
  | 0, x => ⟨fun _ y h1 h2 => by omega, fun _ => rfl⟩
  | m + 1, x => by
    have ih := flS_spec l i g m (x + 1)
    unfold flS
    rw [Bool.and_eq_true, ih, Bool.or_eq_true, Bool.not_eq_true']
    constructor
    · rintro ⟨h1, h2⟩ y hy hy2 hs
      rcases Nat.lt_or_ge x y with h3 | h3
      · exact h2 y (by omega) (by omega) hs
      · obtain rfl : x = y := by omega
        rcases h1 with h1 | h1
        · rw [h1] at hs; cases hs
        · exact h1
    · intro h
      refine ⟨?_, fun y hy hy2 hs => h y (by omega) (by omega) hs⟩
      cases hs : smS l x i
      · exact Or.inl rfl
      · exact Or.inr (h x (Nat.le_refl _) (by omega) hs)
theorem sm_sg (l : List S30) (x i : Nat) : smS l x i = true ↔ sgB l (rd_T30 l (i : Int)).f2.f0 (rd_T30 l (i : Int)).f2.f1 x := by
  unfold smS sgB
  rw [Bool.and_eq_true, beq_iff_eq, beq_iff_eq]
theorem keep_eq (l : List S30) (i : Nat) (hi : i < l.length) : kpC l i = keepR l i := by
  have hself : sgB l (rd_T30 l (i : Int)).f2.f0 (rd_T30 l (i : Int)).f2.f1 i := ⟨rfl, rfl⟩
  have hf := fst_spec l (rd_T30 l (i : Int)).f2.f0 (rd_T30 l (i : Int)).f2.f1 l.length (Nat.le_refl _)
  have hg := lst_spec l (rd_T30 l (i : Int)).f2.f0 (rd_T30 l (i : Int)).f2.f1 l.length (Nat.le_refl _)
  rw [Bool.eq_iff_iff]
  unfold kpC keepR
  rw [dif_pos hi, Bool.or_eq_true, Bool.or_eq_true, flS_spec, flS_spec, beq_iff_eq, beq_iff_eq, ← rd30_at hi]
  cases hF : fstF l l.length (rd_T30 l (i : Int)).f2.f0 (rd_T30 l (i : Int)).f2.f1 with
  | none => rw [hF] at hf; exact absurd hself (hf i hi)
  | some j =>
    cases hL : lstF l l.length (rd_T30 l (i : Int)).f2.f0 (rd_T30 l (i : Int)).f2.f1 with
    | none => rw [hL] at hg; exact absurd hself (hg i hi)
    | some q =>
      rw [hF] at hf
      rw [hL] at hg
      simp only [Option.getD_some, sm_sg, decide_eq_true_eq]
      obtain ⟨f1, f2, f3⟩ := hf
      obtain ⟨g1, g2, g3⟩ := hg
      have hji : j ≤ i := by
        rcases Nat.lt_or_ge i j with h | h
        · exact absurd hself (f3 i h)
        · exact h
      have hiq : i ≤ q := by
        rcases Nat.lt_or_ge q i with h | h
        · exact absurd hself (g3 i h hi)
        · exact h
      constructor
      · rintro (h | h)
        · left
          intro y _ hy hs
          rcases Nat.lt_or_ge y i with h2 | h2
          · exact absurd hs (f3 y (by omega))
          · exact h2
        · right
          intro y _ hy hs
          rcases Nat.lt_or_ge i y with h2 | h2
          · exact absurd hs (g3 y (by omega) (by omega))
          · exact h2
      · rintro (h | h)
        · left
          have := h j (Nat.zero_le _) (by omega) f2
          omega
        · right
          have := h q (Nat.zero_le _) (by omega) g2
          omega
theorem join_congr (f g : Nat → Bool) : ∀ (l : List S30) (i n : Nat), i + l.length = n → (∀ j, i ≤ j → j < n → f j = g j) → joinP f i l = joinP g i l
  | [], i, n, _, _ => rfl
  | x :: t, i, n, hn, h => by
    rw [List.length_cons] at hn
    unfold joinP
    rw [h i (Nat.le_refl _) (by omega), join_congr f g t (i + 1) n (by omega) (fun j h1 h2 => h j (by omega) h2)]
theorem comp_eq (k : Nat) (d : Int) (l : List S30) (hl : l.length ≤ 1000000) (hz : ∀ x ∈ l, zS30 x) (hk : 2000 ≤ k) : journal_Compact.f k d l = some (writP (keepR l) d l) := by
  unfold journal_Compact.f
  rw [if_pos hl, wrA_eq k hk _ d l hz]
  unfold writP
  rw [join_congr (kpC l) (keepR l) l 0 l.length (by omega) (fun j _ h => keep_eq l j h)]
theorem write_eq (k : Nat) (d : Int) (l : List S30) (hz : ∀ x ∈ l, zS30 x) (hk : 2000 ≤ k) : journal_Write.f k d l = some (writP (fun _ => true) d l) := wrA_eq k hk _ d l hz
end Go.Proofs.Yteopkkoblbmggaa.P
end
section
set_option linter.unusedVariables false
set_option linter.unusedSimpArgs false
namespace Go.Proofs.Yteopkkoblbmggaa.Pure
open Go.RowKit Go.Proofs.Yteopkkoblbmggaa.P Go.Proofs.Yteopkkoblbmggaa.Open Go.Proofs.YteopkkoblbmggaaW.PrintWords Go.Proofs.YteopkkoblbmggaaW.PrintLast Go.Proofs.YteopkkoblbmggaaW.PrintMore
theorem JournalWrites (a0_0 : Int) (l0_1 : List S30) (w0_0 : okI a0_0) (w0_1 : l0_1.length ≤ maxLen ∧ l0_1.length * 104 ≤ 140737488351232 ∧ ∀ y ∈ l0_1, zS30 y) : ∃ k, dancestudiolaw58_JournalWrites.f k a0_0 l0_1 = some true := by
  have hz : ∀ x ∈ l0_1, zS30 x := fun x hx => w0_1.2.2 x hx
  refine ⟨6000, ?_⟩
  unfold dancestudiolaw58_JournalWrites.f
  by_cases hl : (l0_1.length : Int) > 40
  · rw [if_pos hl, awake58_eq 6000 (by decide)]; rfl
  · rw [if_neg hl, write_eq 6000 a0_0 l0_1 hz (by decide), rwrite_eq 6000 a0_0 l0_1 (by omega) hz (by decide), comp_eq 6000 a0_0 l0_1 (by omega) hz (by decide), rcomp_eq 6000 a0_0 l0_1 (by omega) hz (by decide), Option.bind_some, Option.bind_some, Option.bind_some, Option.bind_some]
    unfold dancestudioref58_Bytes.f
    rw [Option.bind_some, if_pos (by simp), if_pos rfl, Option.bind_some, if_pos (by simp), if_pos rfl, awake58_eq 6000 (by decide)]
    rfl
end Go.Proofs.Yteopkkoblbmggaa.Pure
end

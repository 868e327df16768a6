/- What the reference's Put and Take say; no condition. -/
import Derived.Test.YtdilndbanhianaaUMB
import Derived.Test.YtdilndbanhianaaUStaffS
import Derived.Test.YtdilndbanhianaaUIter
import Derived.Test.YtdilndbanhianaaUAt
import Derived.Test.YtdilndbanhianaaUColumn
import Derived.Test.YtdilndbanhianaaUPut
import Derived.Test.YtdilndbanhianaaUMC
import Derived.Test.YtdilndbanhianaaP20
import Derived.Test.YtdilndbanhianaaP21
set_option linter.unusedVariables false
set_option linter.unusedSimpArgs false
namespace Go.Proofs.Ytdilndbanhianaa.P
open Go.RowKit Go.Proofs.YtdilndbanhianaaW.PrintWords Go.Proofs.YtdilndbanhianaaW.PrintLast Go.Proofs.YtdilndbanhianaaW.PrintMore
/-! Put -/
def comB (s y : S29) : Bool := decide (y.f1 = s.f1) && (decide (y.f2 < endW s) && decide (s.f2 < endW y))
theorem hit_any (l : List S29) (s : S29) : ((selP l s.f1 l.length).find? (hitP s)).isSome = l.any (comB s) := by
  rw [Bool.eq_iff_iff, List.find?_isSome, List.any_eq_true]
  have e := selP_snd l s.f1 l.length (Nat.le_refl _)
  rw [List.take_length] at e
  constructor
  · rintro ⟨x, hx, h⟩
    have hm : x.2 ∈ (selP l s.f1 l.length).map (·.2) := List.mem_map.mpr ⟨x, hx, rfl⟩
    rw [e, List.mem_filter] at hm
    exact ⟨x.2, hm.1, by simp only [comB, hm.2, Bool.true_and]; exact h⟩
  · rintro ⟨y, hy, h⟩
    simp only [comB, Bool.and_eq_true] at h
    have hm : y ∈ l.filter (fun z => decide (z.f1 = s.f1)) := List.mem_filter.mpr ⟨hy, h.1⟩
    rw [← e, List.mem_map] at hm
    obtain ⟨x, hx, rfl⟩ := hm
    exact ⟨x, hx, by simp only [hitP, Bool.and_eq_true]; exact h.2⟩
theorem filter_place (l : List S29) (s : S29) (h : ordS l = true) : l.filter (fun y => ltS y s) = l.take (placeN l s) ∧ l.filter (fun y => !ltS y s) = l.drop (placeN l s) := by
  obtain ⟨hn, h1, h2⟩ := place_at l s h
  have ea : ∀ x ∈ l.take (placeN l s), ltS x s = true := by
    intro x hx
    obtain ⟨i, hi, rfl⟩ := List.mem_iff_getElem.mp hx
    rw [List.getElem_take]
    rw [List.length_take] at hi
    exact h1 i (by omega) (by omega)
  have eb : ∀ x ∈ l.drop (placeN l s), ltS x s = false := by
    intro x hx
    obtain ⟨i, hi, rfl⟩ := List.mem_iff_getElem.mp hx
    rw [List.getElem_drop]
    rw [List.length_drop] at hi
    exact h2 _ (by omega) (by omega)
  have hsplit : l = l.take (placeN l s) ++ l.drop (placeN l s) := (List.take_append_drop _ _).symm
  constructor
  · conv => lhs; rw [hsplit]
    rw [List.filter_append, List.filter_eq_self.mpr ea, List.filter_eq_nil_iff.mpr (by intro x hx; rw [eb x hx]; decide), List.append_nil]
  · conv => lhs; rw [hsplit]
    rw [List.filter_append, List.filter_eq_nil_iff.mpr (by intro x hx; rw [ea x hx]; decide), List.filter_eq_self.mpr (by intro x hx; rw [eb x hx]; rfl), List.nil_append]
/-! Take -/
theorem neS_iff (a b : S29) : neS a b = true ↔ a ≠ b := by
  unfold neS
  cases a; cases b
  simp only [Bool.or_eq_true, Bool.not_eq_true', beq_eq_false_iff_ne, ne_eq, S29.mk.injEq]
  constructor
  · rintro h ⟨h0, h1, h2, h3, h4, h5, h6⟩; simp_all
  · intro h
    apply Classical.byContradiction
    intro k
    simp only [not_or, Decidable.not_not] at k
    exact h ⟨k.1, k.2.1, k.2.2.1, k.2.2.2.1, k.2.2.2.2.1, k.2.2.2.2.2.1, k.2.2.2.2.2.2⟩
theorem ltS_irr (a b : S29) (h : ltS a b = true) : ¬ (a.f1 = b.f1 ∧ a.f2 = b.f2) := by
  simp only [ltS, lessB, decide_eq_true_eq] at h; omega
/-- In a staff a symbol is told by its column and its begin. -/
theorem key_uniq {l : List S29} (h : l.Pairwise (fun a b => ltS a b = true)) {x y : S29} (hx : x ∈ l) (hy : y ∈ l) (e1 : x.f1 = y.f1) (e2 : x.f2 = y.f2) : x = y := by
  obtain ⟨i, hi, rfl⟩ := List.mem_iff_getElem.mp hx
  obtain ⟨j, hj, rfl⟩ := List.mem_iff_getElem.mp hy
  have hp := List.pairwise_iff_getElem.mp h
  by_cases c : i = j
  · subst c; rfl
  · rcases Nat.lt_or_gt_of_ne c with c | c
    · exact absurd ⟨e1, e2⟩ (ltS_irr _ _ (hp i j hi hj c))
    · exact absurd ⟨e1.symm, e2.symm⟩ (ltS_irr _ _ (hp j i hj hi c))
theorem place_key {l : List S29} (h : ordS l = true) (i : Nat) (hi : i < l.length) : placeN l (keyS l[i].f1 l[i].f2) = i := by
  obtain ⟨hn, h1, h2⟩ := place_at l (keyS l[i].f1 l[i].f2) h
  have hk : ∀ x : S29, ltS x (keyS l[i].f1 l[i].f2) = ltS x l[i] := fun x => rfl
  apply Decidable.byContradiction
  intro c
  rcases Nat.lt_or_gt_of_ne c with c | c
  · have := h2 _ (by omega : placeN l (keyS l[i].f1 l[i].f2) < l.length) (Nat.le_refl _)
    rw [hk, ordS_lt l h _ i hi c] at this; cases this
  · have := h1 i hi c
    rw [hk] at this
    simp only [ltS, lessB, decide_eq_true_eq] at this; omega
theorem take_form (l : List S29) (n c b : Int) (h : chkS l n = 0) : takS l n c b = (if (l.filter (fun y => !(decide (y.f1 = c) && decide (y.f2 = b)))).length = l.length then ([], 6) else (l.filter (fun y => !(decide (y.f1 = c) && decide (y.f2 = b))), 0)) := by
  have v := (chkS_ok l n).mp h
  have ho := (ordS_pw l).mpr v.ord
  unfold takS
  rw [if_neg (not_not_intro h)]
  by_cases hx : ∃ y ∈ l, y.f1 = c ∧ y.f2 = b
  · obtain ⟨y, hy, e1, e2⟩ := hx
    obtain ⟨i, hi, rfl⟩ := List.mem_iff_getElem.mp hy
    have hp := place_key ho i hi
    rw [e1, e2] at hp
    have hne : ¬ (l.filter (fun y => !(decide (y.f1 = c) && decide (y.f2 = b)))).length = l.length := by
      intro hl
      have := List.length_filter_eq_length_iff.mp hl _ hy
      rw [e1, e2] at this; simp at this
    rw [if_neg hne, dif_pos (by rw [hp]; exact hi)]
    simp only [hp]
    rw [if_pos e1, if_pos e2]
    congr 1
    apply List.filter_congr
    intro x hx
    rw [Bool.eq_iff_iff, neS_iff, Bool.not_eq_true', Bool.and_eq_false_iff, decide_eq_false_iff_not, decide_eq_false_iff_not]
    constructor
    · intro hne
      apply Decidable.byContradiction
      intro hh
      rw [not_or, Decidable.not_not, Decidable.not_not] at hh
      exact hne (key_uniq v.ord hx hy (by omega) (by omega))
    · rintro h rfl; rcases h with h | h
      · exact h e1
      · exact h e2
  · have hl : (l.filter (fun y => !(decide (y.f1 = c) && decide (y.f2 = b)))).length = l.length := by
      rw [List.length_filter_eq_length_iff]
      intro y hy
      rw [Bool.not_eq_true', Bool.and_eq_false_iff, decide_eq_false_iff_not, decide_eq_false_iff_not]
      apply Decidable.byContradiction
      intro hh
      rw [not_or, Decidable.not_not, Decidable.not_not] at hh
      exact hx ⟨y, hy, hh⟩
    rw [if_pos hl]
    split
    · rename_i hk
      split
      · split
        · rename_i e1 e2; exact absurd ⟨_, List.getElem_mem hk, e1, e2⟩ hx
        · rfl
      · rfl
    · rfl
end Go.Proofs.Ytdilndbanhianaa.P

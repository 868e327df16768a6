/- A symbol that was put can be taken, and one that was taken can be put again; no condition. -/
import Derived.Test.YtdilndbanhianaaUStaffQ
set_option linter.unusedVariables false
set_option linter.unusedSimpArgs false
namespace Go.Proofs.Ytdilndbanhianaa.P
open Go.RowKit Go.Proofs.YtdilndbanhianaaW.PrintWords Go.Proofs.YtdilndbanhianaaW.PrintLast Go.Proofs.YtdilndbanhianaaW.PrintMore
theorem staff_sub {l : List S29} {n : Int} (v : StaffOk l n) (p : S29 → Bool) : StaffOk (l.filter p) n where
  n0 := v.n0
  n1 := v.n1
  len := Nat.le_trans (List.length_filter_le _ _) v.len
  all := fun s hs => v.all s (List.mem_filter.mp hs).1
  ord := v.ord.filter p
  le := fun s hs => v.le s (List.mem_filter.mp hs).1
  ap := v.ap.filter p
def keyB (s y : S29) : Bool := !(decide (y.f1 = s.f1) && decide (y.f2 = s.f2))
theorem keyB_of {s y : S29} (h : ¬ (y.f1 = s.f1 ∧ y.f2 = s.f2)) : keyB s y = true := by
  unfold keyB
  rw [Bool.not_eq_true', Bool.and_eq_false_iff, decide_eq_false_iff_not, decide_eq_false_iff_not]
  omega
theorem keyB_self (s : S29) : keyB s s = false := by unfold keyB; simp
theorem put_facts {l : List S29} {n : Int} {s : S29} {m : List S29} (h : putP l n s = (m, 0)) :
    StaffOk l n ∧ chkO s = 0 ∧ endS s ≤ n ∧ (∀ y ∈ l, y.f1 = s.f1 → endS y ≤ s.f2 ∨ endS s ≤ y.f2) ∧ l.length ≠ 256 ∧ m = l.filter (fun y => ltS y s) ++ [s] ++ l.filter (fun y => !ltS y s) := by
  unfold putP at h
  by_cases h1 : chkS l n = 0
  · have v := (chkS_ok l n).mp h1
    rw [if_neg (not_not_intro h1)] at h
    by_cases h2 : chkO s = 0
    · have es : wrap64 (s.f2 + s.f3) = endS s := endW_eq s h2
      rw [if_neg (not_not_intro h2), es] at h
      by_cases h3 : n < endS s
      · rw [if_pos h3] at h; cases h
      · rw [if_neg h3, hit_any] at h
        by_cases h4 : l.any (comB s) = true
        · rw [if_pos h4] at h; cases h
        · rw [if_neg h4] at h
          by_cases h5 : l.length = 256
          · rw [if_pos h5] at h; cases h
          · rw [if_neg h5] at h
            refine ⟨v, h2, by omega, fun y hy e => ?_, h5, ?_⟩
            · have hb : ¬ comB s y = true := fun hc => h4 (List.any_eq_true.mpr ⟨y, hy, hc⟩)
              have ey : endW y = endS y := endW_eq y (v.all y hy)
              have es' : endW s = endS s := endW_eq s h2
              simp only [comB, e, ey, es', decide_true, Bool.true_and, Bool.and_eq_true, decide_eq_true_eq] at hb
              omega
            · have ho := (ordS_pw l).mpr v.ord
              rw [(filter_place l s ho).1, (filter_place l s ho).2]
              exact (congrArg Prod.fst h).symm
    · rw [if_pos h2] at h
      exact absurd (congrArg Prod.snd h) h2
  · rw [if_pos h1] at h
    exact absurd (congrArg Prod.snd h) h1
theorem put_bad {l : List S29} {n : Int} {s : S29} (h : ¬ (putP l n s).2 = 0) : (putP l n s).1 = [] := by
  unfold putP at h ⊢
  repeat' split
  all_goals first | rfl | skip
  rename_i h1 h2 h3 h4 h5
  rw [if_neg h1, if_neg h2, if_neg h3, if_neg h4, if_neg h5] at h
  exact absurd rfl h
theorem lt_or {a b : S29} (h : ltS a b = false) (hk : ¬ (a.f1 = b.f1 ∧ a.f2 = b.f2)) : ltS b a = true := by
  simp only [ltS, lessB, decide_eq_true_eq, decide_eq_false_iff_not] at *; omega
/-- What was put is taken again. -/
theorem put_take {l : List S29} {n : Int} {s : S29} {m : List S29} (h : putP l n s = (m, 0)) : StaffOk m n ∧ m.length = l.length + 1 ∧ takS m n s.f1 s.f2 = (l, 0) := by
  obtain ⟨v, hs, he, hd, hl, rfl⟩ := put_facts h
  have hbs := chkO_in s hs
  have hkey : ∀ y ∈ l, ¬ (y.f1 = s.f1 ∧ y.f2 = s.f2) := by
    rintro y hy ⟨e1, e2⟩
    have := chkO_in y (v.all y hy)
    have := hd y hy e1
    unfold endS at this; omega
  have hlen : (l.filter (fun y => ltS y s) ++ [s] ++ l.filter (fun y => !ltS y s)).length = l.length + 1 := by
    have e : l.filter (fun y => ltS y s) ++ l.filter (fun y => !ltS y s) = l := by
      have ho := (ordS_pw l).mpr v.ord
      rw [(filter_place l s ho).1, (filter_place l s ho).2, List.take_append_drop]
    have e2 := congrArg List.length e
    simp only [List.length_append, List.length_singleton] at e2 ⊢
    omega
  have vm : StaffOk (l.filter (fun y => ltS y s) ++ [s] ++ l.filter (fun y => !ltS y s)) n :=
    { n0 := v.n0, n1 := v.n1
      len := by have := v.len; omega
      all := fun y hy => by
        rcases List.mem_append.mp hy with hy | hy
        · rcases List.mem_append.mp hy with hy | hy
          · exact v.all y (List.mem_filter.mp hy).1
          · rw [List.mem_singleton.mp hy]; exact hs
        · exact v.all y (List.mem_filter.mp hy).1
      le := fun y hy => by
        rcases List.mem_append.mp hy with hy | hy
        · rcases List.mem_append.mp hy with hy | hy
          · exact v.le y (List.mem_filter.mp hy).1
          · rw [List.mem_singleton.mp hy]; exact he
        · exact v.le y (List.mem_filter.mp hy).1
      ord := by
        refine List.pairwise_append.mpr ⟨List.pairwise_append.mpr ⟨v.ord.filter _, List.pairwise_singleton _ _, fun a ha b hb => ?_⟩, v.ord.filter _, fun a ha b hb => ?_⟩
        · rw [List.mem_singleton.mp hb]; exact (List.mem_filter.mp ha).2
        · obtain ⟨hb1, hb2⟩ := List.mem_filter.mp hb
          rw [Bool.not_eq_true'] at hb2
          have hsb : ltS s b = true := lt_or hb2 (hkey b hb1)
          rcases List.mem_append.mp ha with ha | ha
          · exact ltS_tr (List.mem_filter.mp ha).2 hsb
          · rw [List.mem_singleton.mp ha]; exact hsb
      ap := by
        have hA : ∀ a ∈ l.filter (fun y => ltS y s), apS a s := fun a ha e => by
          obtain ⟨h1, h2⟩ := List.mem_filter.mp ha
          rcases hd a h1 e with h | h
          · exact h
          · have := chkO_in a (v.all a h1)
            simp only [ltS, lessB, decide_eq_true_eq] at h2
            unfold endS at h; omega
        have hB : ∀ b ∈ l.filter (fun y => !ltS y s), apS s b := fun b hb e => by
          obtain ⟨h1, h2⟩ := List.mem_filter.mp hb
          rw [Bool.not_eq_true'] at h2
          rcases hd b h1 e.symm with h | h
          · have := chkO_in b (v.all b h1)
            simp only [ltS, lessB, decide_eq_false_iff_not] at h2
            unfold endS at h; omega
          · exact h
        refine List.pairwise_append.mpr ⟨List.pairwise_append.mpr ⟨v.ap.filter _, List.pairwise_singleton _ _, fun a ha b hb => ?_⟩, v.ap.filter _, fun a ha b hb => ?_⟩
        · rw [List.mem_singleton.mp hb]; exact hA a ha
        · rcases List.mem_append.mp ha with ha | ha
          · intro e
            obtain ⟨ha1, ha2⟩ := List.mem_filter.mp ha
            obtain ⟨hb1, hb2⟩ := List.mem_filter.mp hb
            by_cases es : a.f1 = s.f1
            · have q1 := hA a ha es
              have q2 := hB b hb (by omega)
              have := chkO_in s hs
              unfold endS at *; omega
            · rw [Bool.not_eq_true'] at hb2
              obtain ⟨i, hi, rfl⟩ := List.mem_iff_getElem.mp ha1
              obtain ⟨j, hj, rfl⟩ := List.mem_iff_getElem.mp hb1
              have hp := List.pairwise_iff_getElem.mp v.ap
              have ho := List.pairwise_iff_getElem.mp v.ord
              rcases Nat.lt_or_ge i j with c | c
              · exact hp i j hi hj c e
              · exfalso
                by_cases e2 : i = j
                · subst e2; rw [hb2] at ha2; cases ha2
                · have := ltS_tr (ho j i hj hi (by omega)) ha2
                  rw [hb2] at this; cases this
          · rw [List.mem_singleton.mp ha]; exact hB b hb }
  refine ⟨vm, hlen, ?_⟩
  have ef : (l.filter (fun y => ltS y s) ++ [s] ++ l.filter (fun y => !ltS y s)).filter (keyB s) = l := by
    have f1 : ∀ p : S29 → Bool, (l.filter p).filter (keyB s) = l.filter p := fun p => List.filter_eq_self.mpr fun y hy => keyB_of (hkey y (List.mem_filter.mp hy).1)
    rw [List.filter_append, List.filter_append, f1, f1]
    have f2 : [s].filter (keyB s) = [] := by rw [List.filter_cons_of_neg (by rw [keyB_self]; decide)]; rfl
    have ho := (ordS_pw l).mpr v.ord
    rw [f2, List.append_nil, (filter_place l s ho).1, (filter_place l s ho).2, List.take_append_drop]
  have tf := take_form _ n s.f1 s.f2 ((chkS_ok _ n).mpr vm)
  have ek : (fun y : S29 => !(decide (y.f1 = s.f1) && decide (y.f2 = s.f2))) = keyB s := rfl
  rw [ek, ef, if_neg (by rw [hlen]; omega)] at tf
  exact tf
/-- What was taken is put again. -/
theorem take_put {l : List S29} {n : Int} (v : StaffOk l n) (i : Nat) (hi : i < l.length) :
    takS l n l[i].f1 l[i].f2 = (l.take i ++ l.drop (i + 1), 0) ∧ putP (l.take i ++ l.drop (i + 1)) n l[i] = (l, 0) := by
  have hs := v.all l[i] (List.getElem_mem hi)
  have hsplit : l = l.take i ++ (l[i] :: l.drop (i + 1)) := by rw [← List.drop_eq_getElem_cons hi, List.take_append_drop]
  have ho := v.ord
  have hap := v.ap
  obtain ⟨s, hse⟩ : ∃ s, l[i] = s := ⟨_, rfl⟩
  have hlt : l.length = (l.take i).length + (l.drop (i + 1)).length + 1 := by
    have := congrArg List.length hsplit
    simp only [List.length_append, List.length_cons] at this ⊢
    omega
  have hm : s ∈ l := hse ▸ List.getElem_mem hi
  rw [hse] at hs hsplit ⊢
  generalize hA : l.take i = A at hsplit hlt ⊢
  generalize hB : l.drop (i + 1) = B at hsplit hlt ⊢
  rw [hsplit] at ho hap
  obtain ⟨o1, o2, o3⟩ := List.pairwise_append.mp ho
  obtain ⟨o4, o5⟩ := List.pairwise_cons.mp o2
  obtain ⟨p1, p2, p3⟩ := List.pairwise_append.mp hap
  obtain ⟨p4, p5⟩ := List.pairwise_cons.mp p2
  have hAs : ∀ a ∈ A, ltS a s = true := fun a ha => o3 a ha s (by simp)
  have kA : ∀ a ∈ A, keyB s a = true := fun a ha => keyB_of (ltS_irr a s (hAs a ha))
  have kB : ∀ b ∈ B, keyB s b = true := fun b hb => keyB_of (fun ⟨e1, e2⟩ => ltS_irr s b (o4 b hb) ⟨e1.symm, e2.symm⟩)
  have nB : ∀ b ∈ B, ltS b s = false := fun b hb => by
    have := o4 b hb
    simp only [ltS, lessB, decide_eq_true_eq, decide_eq_false_iff_not] at *; omega
  have ef : l.filter (keyB s) = A ++ B := by
    conv => lhs; rw [hsplit]
    rw [List.filter_append, List.filter_cons_of_neg (by rw [keyB_self]; decide), List.filter_eq_self.mpr kA, List.filter_eq_self.mpr kB]
  have ek : (fun y : S29 => !(decide (y.f1 = s.f1) && decide (y.f2 = s.f2))) = keyB s := rfl
  have tf := take_form l n s.f1 s.f2 ((chkS_ok _ n).mpr v)
  rw [ek, ef, if_neg (by rw [hlt, List.length_append]; omega)] at tf
  refine ⟨tf, ?_⟩
  have vm : StaffOk (A ++ B) n := ef ▸ staff_sub v (keyB s)
  have hin : ∀ y ∈ A ++ B, y ∈ l := fun y hy => by
    rw [hsplit]
    rcases List.mem_append.mp hy with h | h
    · exact List.mem_append.mpr (.inl h)
    · exact List.mem_append.mpr (.inr (List.mem_cons_of_mem _ h))
  have es : wrap64 (s.f2 + s.f3) = endS s := endW_eq s hs
  have hle := v.le s hm
  have hno : ¬ (A ++ B).any (comB s) = true := by
    intro hc
    obtain ⟨y, hy, hy2⟩ := List.any_eq_true.mp hc
    have ey : endW y = endS y := endW_eq y (v.all y (hin y hy))
    have es' : endW s = endS s := endW_eq s hs
    simp only [comB, ey, es', Bool.and_eq_true, decide_eq_true_eq] at hy2
    rcases List.mem_append.mp hy with h | h
    · have := p3 y h s (by simp) hy2.1; omega
    · have := p4 y h hy2.1.symm; omega
  unfold putP
  rw [if_neg (not_not_intro ((chkS_ok _ n).mpr vm)), if_neg (not_not_intro hs), es, if_neg (by omega), hit_any, if_neg hno, if_neg (by have := v.len; rw [hlt] at this; rw [List.length_append]; omega)]
  have hom := (ordS_pw _).mpr vm.ord
  rw [← (filter_place _ s hom).1, ← (filter_place _ s hom).2, List.filter_append, List.filter_append, List.filter_eq_self.mpr hAs, List.filter_eq_nil_iff.mpr (fun b hb => by rw [nB b hb]; decide),
    List.filter_eq_nil_iff.mpr (fun a ha => by rw [hAs a ha]; decide), List.filter_eq_self.mpr (fun b hb => by rw [nB b hb]; rfl), List.append_nil, List.nil_append, List.append_assoc]
  rw [hsplit]; rfl
end Go.Proofs.Ytdilndbanhianaa.P

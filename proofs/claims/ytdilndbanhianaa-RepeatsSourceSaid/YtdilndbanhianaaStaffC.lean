/- Staves that are moved, cut and joined, in the program's own plain words; no condition. -/
import Derived.Test.YtdilndbanhianaaVStaffJ0
import Derived.Test.YtdilndbanhianaaVMC
set_option linter.unusedVariables false
set_option linter.unusedSimpArgs false
namespace Go.Proofs.Ytdilndbanhianaa.P
open Go.RowKit Go.Proofs.YtdilndbanhianaaW.PrintWords Go.Proofs.YtdilndbanhianaaW.PrintLast Go.Proofs.YtdilndbanhianaaW.PrintMore
theorem mov_f2 {d : Int} {s : S29} (h : chkO s = 0) (h1 : -8192 ≤ d) (h2 : d ≤ 8192) : (movS d s).f2 = s.f2 + d := by
  have := chkO_in s h
  unfold movS; exact wrap_in _ (by omega) (by omega)
theorem mov_eq {d : Int} {s : S29} (h : chkO s = 0) (h1 : -8192 ≤ d) (h2 : d ≤ 8192) : movS d s = ⟨s.f0, s.f1, s.f2 + d, s.f3, s.f4, s.f5, s.f6⟩ := by
  have e : wrap64 (s.f2 + d) = s.f2 + d := mov_f2 h h1 h2
  unfold movS; rw [e]
theorem mov_end {d : Int} {s : S29} (h : chkO s = 0) (h1 : -8192 ≤ d) (h2 : d ≤ 8192) : endS (movS d s) = endS s + d := by
  rw [mov_eq h h1 h2]; unfold endS; simp only; omega
theorem mov_chk {d : Int} {s : S29} (h : chkO s = 0) (h1 : -8192 ≤ d) (h2 : d ≤ 8192) (h3 : 0 ≤ s.f2 + d) (h4 : endS s + d ≤ 8192) : chkO (movS d s) = 0 := by
  have hb := chkO_in s h
  rw [mov_eq h h1 h2]
  unfold endS at h4
  unfold chkO chkP at *
  simp only
  by_cases c1 : s.f0 < 1 ∨ 4 < s.f0
  · rw [if_pos c1] at h; cases h
  · rw [if_neg c1] at h ⊢
    by_cases c2 : colP s.f0 s.f1
    · rw [if_neg (not_not_intro c2)] at h ⊢
      rw [if_neg (by omega)] at h ⊢
      exact h
    · rw [if_pos c2] at h; cases h
theorem mov_lt {d : Int} {a b : S29} (ha : chkO a = 0) (hb : chkO b = 0) (h1 : -8192 ≤ d) (h2 : d ≤ 8192) : ltS (movS d a) (movS d b) = ltS a b := by
  rw [mov_eq ha h1 h2, mov_eq hb h1 h2]
  simp only [ltS, lessB, decide_eq_decide]; omega
theorem mov_back {d : Int} {s : S29} (h : chkO s = 0) (h1 : -8192 ≤ d) (h2 : d ≤ 8192) : movS (wrap64 (-d)) (movS d s) = s := by
  have hb := chkO_in s h
  rw [mov_eq h h1 h2, wrap_in (-d) (by omega) (by omega)]
  unfold movS; simp only
  rw [wrap_in _ (by omega) (by omega)]
  cases s; simp only [S29.mk.injEq, and_true, true_and]; omega
/-- A part of a staff, moved, is a staff. -/
theorem staff_shift {l : List S29} {d m : Int} (h1 : -8192 ≤ d) (h2 : d ≤ 8192) (m0 : 1 ≤ m) (m1 : m ≤ 8192) (hlen : l.length ≤ 256) (hall : ∀ s ∈ l, chkO s = 0) (hord : l.Pairwise (fun a b => ltS a b = true)) (hap : l.Pairwise apS)
    (hb : ∀ s ∈ l, 0 ≤ s.f2 + d) (he : ∀ s ∈ l, endS s + d ≤ m) : StaffOk (l.map (movS d)) m where
  n0 := m0
  n1 := m1
  len := by simpa using hlen
  all := by
    intro s hs
    obtain ⟨x, hx, rfl⟩ := List.mem_map.mp hs
    exact mov_chk (hall x hx) h1 h2 (hb x hx) (by have := he x hx; omega)
  ord := by
    rw [List.pairwise_map]
    exact hord.imp_of_mem (fun {a b} ha hb' h => by rw [mov_lt (hall a ha) (hall b hb') h1 h2]; exact h)
  le := by
    intro s hs
    obtain ⟨x, hx, rfl⟩ := List.mem_map.mp hs
    rw [mov_end (hall x hx) h1 h2]; exact he x hx
  ap := by
    rw [List.pairwise_map]
    refine hap.imp_of_mem (fun {a b} ha hb' h e => ?_)
    rw [mov_end (hall a ha) h1 h2, mov_f2 (hall b hb') h1 h2]
    have := h e
    omega
/-- A staff without some symbols. -/
theorem staff_filter {l : List S29} {n m : Int} (v : StaffOk l n) (p : S29 → Bool) (m0 : 1 ≤ m) (m1 : m ≤ 8192) (he : ∀ s ∈ l, p s = true → endS s ≤ m) : StaffOk (l.filter p) m where
  n0 := m0
  n1 := m1
  len := Nat.le_trans (List.length_filter_le _ _) v.len
  all := fun s hs => v.all s (List.mem_filter.mp hs).1
  ord := v.ord.filter p
  le := fun s hs => he s (List.mem_filter.mp hs).1 (List.mem_filter.mp hs).2
  ap := v.ap.filter p
theorem split_ord (t : Int) : ∀ l : List S29, l.Pairwise (fun a b => ltS a b = true) → l.filter (fun s => decide (s.f2 < t)) ++ l.filter (fun s => decide (t ≤ s.f2)) = l
  | [], _ => rfl
  | a :: l, h => by
    obtain ⟨h1, h2⟩ := List.pairwise_cons.mp h
    by_cases c : a.f2 < t
    · have ih := split_ord t l h2
      rw [List.filter_cons_of_pos (by simpa using c), List.filter_cons_of_neg (by simp; omega), List.cons_append, ih]
    · have hall : ∀ x ∈ a :: l, t ≤ x.f2 := by
        intro x hx
        rcases List.mem_cons.mp hx with rfl | hx
        · omega
        · have := h1 x hx
          simp only [ltS, lessB, decide_eq_true_eq] at this; omega
      rw [List.filter_eq_nil_iff.mpr (by intro x hx; have := hall x hx; simp; omega), List.filter_eq_self.mpr (by intro x hx; have := hall x hx; simpa using this), List.nil_append]
theorem wrap_neg0 : wrap64 (-0) = 0 := by rw [wrap_in _ (by omega) (by omega)]; rfl
/-- Both cuts at a tick, and what they join to. -/
theorem cuts_main {l : List S29} {n t : Int} (v : StaffOk l n) (ht0 : 1 ≤ t) (ht1 : t < n) :
    (cutP l n 0 t = ([], 17) ∧ cutP l n t n = ([], 17)) ∨
    ∃ a b, cutP l n 0 t = (a, 0) ∧ cutP l n t n = (b, 0) ∧ StaffOk a t ∧ StaffOk b (n - t) ∧ joinP a t b (n - t) = (l, 0) := by
  have hn := v.n1
  have ew : ∀ s ∈ l, wrap64 (s.f2 + s.f3) = endS s := fun s hs => endW_eq s (v.all s hs)
  have b1 : ∀ s ∈ l, badC 0 t s = (decide (s.f2 < t) && decide (t < endS s)) := by
    intro s hs
    have hb := chkO_in s (v.all s hs)
    simp only [badC, ew s hs, show ¬ s.f2 < 0 by omega, decide_false, Bool.false_and, Bool.false_or]
  have b2 : ∀ s ∈ l, badC t n s = (decide (s.f2 < t) && decide (t < endS s)) := by
    intro s hs
    have hb := v.le s hs
    simp only [badC, ew s hs, show ¬ n < endS s by omega, decide_false, Bool.and_false, Bool.or_false]
  have e1 : l.any (badC 0 t) = l.any (fun s => decide (s.f2 < t) && decide (t < endS s)) := by
    rw [Bool.eq_iff_iff, List.any_eq_true, List.any_eq_true]
    exact ⟨fun ⟨x, hx, h⟩ => ⟨x, hx, (b1 x hx) ▸ h⟩, fun ⟨x, hx, h⟩ => ⟨x, hx, (b1 x hx).symm ▸ h⟩⟩
  have e2 : l.any (badC t n) = l.any (fun s => decide (s.f2 < t) && decide (t < endS s)) := by
    rw [Bool.eq_iff_iff, List.any_eq_true, List.any_eq_true]
    exact ⟨fun ⟨x, hx, h⟩ => ⟨x, hx, (b2 x hx) ▸ h⟩, fun ⟨x, hx, h⟩ => ⟨x, hx, (b2 x hx).symm ▸ h⟩⟩
  have c0 : chkS l n = 0 := (chkS_ok l n).mpr v
  by_cases hany : l.any (fun s => decide (s.f2 < t) && decide (t < endS s)) = true
  · left
    constructor
    · unfold cutP; rw [if_neg (not_not_intro c0), if_neg (by omega), if_pos (e1.trans hany)]
    · unfold cutP; rw [if_neg (not_not_intro c0), if_neg (by omega), if_pos (e2.trans hany)]
  · right
    have hno : ∀ s ∈ l, s.f2 < t → endS s ≤ t := by
      intro s hs h
      apply Decidable.byContradiction
      intro c
      exact hany (List.any_eq_true.mpr ⟨s, hs, by simp [h]; omega⟩)
    have f1 : (l.filter (inC 0 t)) = l.filter (fun s => decide (s.f2 < t)) := by
      apply List.filter_congr
      intro s hs
      have hb := chkO_in s (v.all s hs)
      simp [inC, hb.2.2.1]
    have f2 : (l.filter (inC t n)) = l.filter (fun s => decide (t ≤ s.f2)) := by
      apply List.filter_congr
      intro s hs
      have hb := chkO_in s (v.all s hs)
      have hc := v.le s hs
      unfold endS at hc
      simp [inC, show s.f2 < n by omega]
    have va : StaffOk (l.filter (fun s => decide (s.f2 < t))) t := staff_filter v _ ht0 (by omega) (fun s hs h => hno s hs (by simpa using h))
    have vb0 : StaffOk (l.filter (fun s => decide (t ≤ s.f2))) n := staff_filter v _ v.n0 v.n1 (fun s hs _ => v.le s hs)
    have vb : StaffOk ((l.filter (fun s => decide (t ≤ s.f2))).map (movS (-t))) (n - t) := staff_shift (by omega) (by omega) (by omega) (by omega) vb0.len vb0.all vb0.ord vb0.ap
      (fun s hs => by have := (List.mem_filter.mp hs).2; simp at this; omega) (fun s hs => by have := vb0.le s hs; omega)
    refine ⟨_, _, ?_, ?_, va, vb, ?_⟩
    · unfold cutP; rw [if_neg (not_not_intro c0), if_neg (by omega), if_neg (e1 ▸ hany), f1, wrap_neg0, map_mov0 _ va.all]
    · unfold cutP; rw [if_neg (not_not_intro c0), if_neg (by omega), if_neg (e2 ▸ hany), f2, wrap_in (-t) (by omega) (by omega)]
    · have hl : (l.filter (fun s => decide (s.f2 < t))).length + (l.filter (fun s => decide (t ≤ s.f2))).length = l.length := by
        rw [← List.length_append, split_ord t l v.ord]
      unfold joinP
      rw [if_neg (not_not_intro ((chkS_ok _ _).mpr va)), if_neg (not_not_intro ((chkS_ok _ _).mpr vb)), if_neg (by omega), if_neg (by rw [List.length_map]; have := v.len; omega), List.map_map]
      have : (l.filter (fun s => decide (t ≤ s.f2))).map (movS t ∘ movS (-t)) = l.filter (fun s => decide (t ≤ s.f2)) := by
        have : ∀ s ∈ l.filter (fun s => decide (t ≤ s.f2)), (movS t ∘ movS (-t)) s = s := by
          intro s hs
          have := mov_back (d := -t) (vb0.all s hs) (by omega) (by omega)
          rw [Int.neg_neg, wrap_in t (by omega) (by omega)] at this
          exact this
        rw [List.map_congr_left this]; simp
      rw [this, split_ord t l v.ord]
/-- What was joined, cut again. -/
theorem both_main {A B : List S29} {N M : Int} (va : StaffOk A N) (vb : StaffOk B M) (hs : N + M ≤ 8192) (hl : A.length + B.length ≤ 256) :
    StaffOk (A ++ B.map (movS N)) (N + M) ∧ cutP (A ++ B.map (movS N)) (N + M) 0 N = (A, 0) ∧ cutP (A ++ B.map (movS N)) (N + M) N (N + M) = (B, 0) := by
  have hN := va.n0
  have hM := vb.n0
  have v' : StaffOk (B.map (movS N)) (N + M) := staff_shift (by omega) (by omega) (by omega) hs vb.len vb.all vb.ord vb.ap (fun s h => by have := chkO_in s (vb.all s h); omega) (fun s h => by have := vb.le s h; omega)
  have hge : ∀ y ∈ B.map (movS N), N ≤ y.f2 := by
    intro y hy
    obtain ⟨x, hx, rfl⟩ := List.mem_map.mp hy
    rw [mov_f2 (vb.all x hx) (by omega) (by omega)]
    have := chkO_in x (vb.all x hx); omega
  have hlt : ∀ x ∈ A, x.f2 < N := by
    intro x hx
    have h1 := va.le x hx
    have h2 := chkO_in x (va.all x hx)
    unfold endS at h1; omega
  have v : StaffOk (A ++ B.map (movS N)) (N + M) :=
    { n0 := by omega, n1 := hs, len := by simpa using hl
      all := fun s h => (List.mem_append.mp h).elim (va.all s) (v'.all s)
      ord := List.pairwise_append.mpr ⟨va.ord, v'.ord, fun a ha b hb => by
        have h1 := hlt a ha; have h2 := hge b hb
        simp only [ltS, lessB, decide_eq_true_eq]; omega⟩
      le := fun s h => (List.mem_append.mp h).elim (fun h => by have := va.le s h; omega) (v'.le s)
      ap := List.pairwise_append.mpr ⟨va.ap, v'.ap, fun a ha b hb _ => by have h1 := va.le a ha; have h2 := hge b hb; omega⟩ }
  have c0 : chkS (A ++ B.map (movS N)) (N + M) = 0 := (chkS_ok _ _).mpr v
  have ew : ∀ s ∈ A ++ B.map (movS N), wrap64 (s.f2 + s.f3) = endS s := fun s hs => endW_eq s (v.all s hs)
  have hnb : ∀ s ∈ A ++ B.map (movS N), s.f2 < N → endS s ≤ N := by
    intro s hs h
    rcases List.mem_append.mp hs with hs | hs
    · exact va.le s hs
    · have := hge s hs; omega
  have n1 : (A ++ B.map (movS N)).any (badC 0 N) = false := by
    rw [Bool.eq_false_iff]
    intro h
    obtain ⟨s, hs, h⟩ := List.any_eq_true.mp h
    have h2 := hnb s hs
    have h3 := chkO_in s (v.all s hs)
    simp only [badC, ew s hs, Bool.or_eq_true, Bool.and_eq_true, decide_eq_true_eq] at h
    omega
  have n2 : (A ++ B.map (movS N)).any (badC N (N + M)) = false := by
    rw [Bool.eq_false_iff]
    intro h
    obtain ⟨s, hs, h⟩ := List.any_eq_true.mp h
    have h2 := hnb s hs
    have h3 := v.le s hs
    simp only [badC, ew s hs, Bool.or_eq_true, Bool.and_eq_true, decide_eq_true_eq] at h
    omega
  refine ⟨v, ?_, ?_⟩
  · unfold cutP
    rw [if_neg (not_not_intro c0), if_neg (by omega), if_neg (by rw [n1]; decide), List.filter_append,
      List.filter_eq_self.mpr (by intro x hx; have h1 := hlt x hx; have h2 := chkO_in x (va.all x hx); simp [inC]; omega), List.filter_eq_nil_iff.mpr (by intro x hx; have := hge x hx; simp [inC]; omega), List.append_nil, wrap_neg0, map_mov0 _ va.all]
  · unfold cutP
    rw [if_neg (not_not_intro c0), if_neg (by omega), if_neg (by rw [n2]; decide), List.filter_append,
      List.filter_eq_nil_iff.mpr (by intro x hx; have := hlt x hx; simp [inC]; omega), List.filter_eq_self.mpr (by intro x hx; have h1 := hge x hx; have h2 := v'.le x hx; have h3 := chkO_in x (v'.all x hx); unfold endS at h2; simp [inC]; omega), List.nil_append, List.map_map]
    have : B.map (movS (wrap64 (-N)) ∘ movS N) = B := by
      have : ∀ s ∈ B, (movS (wrap64 (-N)) ∘ movS N) s = s := fun s hs => mov_back (vb.all s hs) (by omega) (by omega)
      rw [List.map_congr_left this]; simp
    rw [this]
end Go.Proofs.Ytdilndbanhianaa.P

/- What the reference's Column and At say; no condition. -/
import Derived.Test.YtdilndbanhianaaUMB
import Derived.Test.YtdilndbanhianaaUStaffS
import Derived.Test.YtdilndbanhianaaUIter
import Derived.Test.YtdilndbanhianaaUAt
import Derived.Test.YtdilndbanhianaaUColumn
import Derived.Test.YtdilndbanhianaaUPut
import Derived.Test.YtdilndbanhianaaP23
import Derived.Test.YtdilndbanhianaaP24
set_option linter.unusedVariables false
set_option linter.unusedSimpArgs false
namespace Go.Proofs.Ytdilndbanhianaa.P
open Go.RowKit Go.Proofs.YtdilndbanhianaaW.PrintWords Go.Proofs.YtdilndbanhianaaW.PrintLast Go.Proofs.YtdilndbanhianaaW.PrintMore
/-! Column -/
def colR (l : List S29) (n c : Int) : List S29 × Int :=
  if ¬ chkS l n = 0 then ([], chkS l n) else if c < 0 ∨ 9 ≤ c then ([], 16) else (l.filter (fun s => decide (s.f1 = c)), 0)
theorem columnP_eq (l : List S29) (n c : Int) : columnP l n c = colR l n c := by
  unfold columnP colR
  rw [selP_snd l c l.length (Nat.le_refl _), List.take_length]
theorem rcol_l0 (l : List S29) (c : Int) (hl : l.length ≤ 1000) : ∀ d i (acc : List S29), i + d = l.length → acc.length ≤ i → Ev (fun k => dancestudioref24_Column.l0 k l c acc (i : Int)) (acc ++ (l.drop i).filter (fun s => decide (s.f1 = c)), 0) := by
  intro d
  induction d with
  | zero =>
    intro i acc hi ha
    refine Ev.succ ?_
    rw [show l.drop i = [] from List.drop_eq_nil_of_le (by omega)]
    simp only [dancestudioref24_Column.l0, ltI, show ¬ i < l.length by omega, ↓reduceIte, List.filter_nil, List.append_nil]
    exact Ev.now _
  | succ d ih =>
    intro i acc hi ha
    have h : i < l.length := by omega
    refine Ev.succ ?_
    rw [drop_cons29 h, List.filter_cons]
    simp only [dancestudioref24_Column.l0, ltI, h, ge0, ↓reduceIte, rd29_at h, wrapS h (by omega : l.length ≤ 1000000), show acc.length < 2513169434916 by omega, eta29]
    by_cases e : l[i].f1 = c
    · have ih' := ih (i + 1) (acc ++ [l[i]]) (by omega) (by simp; omega)
      rw [List.append_assoc] at ih'
      simp only [e, ↓reduceIte, decide_true]
      exact ih'
    · simp only [e, ↓reduceIte, decide_false, Bool.false_eq_true]
      exact ih (i + 1) acc (by omega) (by omega)
theorem rcol_eq (l : List S29) (n c : Int) : Ev (fun k => dancestudioref24_Column.f k l n c) (columnP l n c) := by
  rw [columnP_eq]
  unfold dancestudioref24_Column.f colR
  refine Ev.bind (rchk_eq l n) ?_
  by_cases h1 : chkS l n = 0
  · have v := (chkS_ok l n).mp h1
    simp only [h1, ↓reduceIte, not_true_eq_false]
    have j0 : ∀ b : Bool, b = decide (c < 0 ∨ 9 ≤ c) → Ev (fun k => dancestudioref24_Column.j0 k l c b) (if c < 0 ∨ 9 ≤ c then ([], 16) else (l.filter (fun s => decide (s.f1 = c)), 0)) := by
      rintro b rfl
      refine Ev.succ ?_
      simp only [dancestudioref24_Column.j0, decide_eq_true_eq]
      by_cases h2 : c < 0 ∨ 9 ≤ c
      · simp only [h2, ↓reduceIte]; exact Ev.now _
      · simp only [h2, ↓reduceIte]
        have := rcol_l0 l c (by have := v.len; omega) l.length 0 [] (by omega) (by simp)
        simpa using this
    by_cases c1 : c < 0
    · simp only [c1, ↓reduceIte]; have := j0 true (by simp [c1]); simpa [c1] using this
    · simp only [c1, ↓reduceIte, GE.ge]; have := j0 (decide (9 ≤ c)) (by simp [c1]); simpa [c1] using this
  · simp only [h1, ↓reduceIte, not_false_eq_true]; exact Ev.now _
/-! At -/
def atC (c t : Int) (s : S29) : Bool := decide (s.f1 = c) && (decide (s.f2 ≤ t) && decide (t < endW s))
/-- The first place that fits, from a place on. -/
def firstI (p : S29 → Bool) : Nat → List S29 → Int
  | _, [] => -1
  | i, s :: l => if p s = true then (i : Int) else firstI p (i + 1) l
theorem find_sel (l : List S29) (c t : Int) : ∀ d i, i + d = l.length → ((selP l c i).find? (hitB t)) = none →
    (((selP l c l.length).find? (hitB t)).map (·.1)).getD (-1) = firstI (atC c t) i (l.drop i) := by
  intro d
  induction d with
  | zero =>
    intro i hi hn
    obtain rfl : i = l.length := by omega
    rw [hn, List.drop_length]; rfl
  | succ d ih =>
    intro i hi hn
    have h : i < l.length := by omega
    rw [drop_cons29 h, firstI]
    by_cases e : l[i].f1 = c
    · have hs := selP_hit l c i h e
      by_cases hb : hitB t ((i : Int), l[i]) = true
      · have hc : atC c t l[i] = true := by simp only [atC, e, decide_true, Bool.true_and]; exact hb
        rw [if_pos hc]
        have hf : (selP l c (i + 1)).find? (hitB t) = some ((i : Int), l[i]) := by rw [hs, List.find?_append, hn]; simp [hb]
        rw [selP_find l c (hitB t) (i + 1) l.length (by omega) _ hf]; rfl
      · have hc : ¬ atC c t l[i] = true := by simp only [atC, e, decide_true, Bool.true_and]; exact hb
        rw [if_neg hc]
        exact ih (i + 1) (by omega) (by rw [hs, List.find?_append, hn]; simp [hb])
    · have hc : ¬ atC c t l[i] = true := by simp [atC, e]
      rw [if_neg hc]
      exact ih (i + 1) (by omega) (by rw [selP_miss l c i h e]; exact hn)
def atR24 (l : List S29) (n c t : Int) : Int × Int :=
  if ¬ chkS l n = 0 then (0, chkS l n) else if c < 0 ∨ 9 ≤ c then (0, 16) else if t < 0 ∨ n ≤ t then (0, 1) else (firstI (atC c t) 0 l, 0)
theorem atP_eq (l : List S29) (n c t : Int) : atP l n c t = atR24 l n c t := by
  unfold atP atR24
  rw [find_sel l c t l.length 0 (by omega) rfl, List.drop_zero]
theorem rat_l0 (l : List S29) (c t : Int) (hl : l.length ≤ 1000) : ∀ d i, i + d = l.length → Ev (fun k => dancestudioref24_At.l0 k l c t (i : Int)) (firstI (atC c t) i (l.drop i), 0) := by
  intro d
  induction d with
  | zero =>
    intro i hi
    refine Ev.succ ?_
    rw [show l.drop i = [] from List.drop_eq_nil_of_le (by omega)]
    simp only [dancestudioref24_At.l0, ltI, show ¬ i < l.length by omega, ↓reduceIte, firstI]
    exact Ev.now _
  | succ d ih =>
    intro i hi
    have h : i < l.length := by omega
    have ih' := ih (i + 1) (by omega)
    refine Ev.succ ?_
    rw [drop_cons29 h, firstI]
    simp only [dancestudioref24_At.l0, ltI, h, ge0, ↓reduceIte, rd29_at h, wrapS h (by omega : l.length ≤ 1000000), dancestudioref24_end.f, Option.bind_some]
    by_cases e : l[i].f1 = c
    · by_cases e2 : l[i].f2 ≤ t
      · by_cases e3 : t < wrap64 (l[i].f2 + l[i].f3)
        · have : atC c t l[i] = true := by simp [atC, e, e2, endW, e3]
          simp only [e, e2, e3, ↓reduceIte, this]; exact Ev.now _
        · have : atC c t l[i] = false := by simp [atC, endW, e3]
          simp only [e, e2, e3, ↓reduceIte, this, Bool.false_eq_true]; exact ih'
      · have : atC c t l[i] = false := by simp [atC, e2]
        simp only [e, e2, ↓reduceIte, this, Bool.false_eq_true]; exact ih'
    · have : atC c t l[i] = false := by simp [atC, e]
      simp only [e, ↓reduceIte, this, Bool.false_eq_true]; exact ih'
theorem rat_eq (l : List S29) (n c t : Int) : Ev (fun k => dancestudioref24_At.f k l n c t) (atP l n c t) := by
  rw [atP_eq]
  unfold dancestudioref24_At.f atR24
  refine Ev.bind (rchk_eq l n) ?_
  by_cases h1 : chkS l n = 0
  · have v := (chkS_ok l n).mp h1
    simp only [h1, ↓reduceIte, not_true_eq_false]
    have j1 : ∀ b : Bool, b = decide (t < 0 ∨ n ≤ t) → Ev (fun k => dancestudioref24_At.j1 k l c t b) (if t < 0 ∨ n ≤ t then (0, 1) else (firstI (atC c t) 0 l, 0)) := by
      rintro b rfl
      refine Ev.succ ?_
      simp only [dancestudioref24_At.j1, decide_eq_true_eq]
      by_cases h2 : t < 0 ∨ n ≤ t
      · simp only [h2, ↓reduceIte]; exact Ev.now _
      · simp only [h2, ↓reduceIte]
        exact rat_l0 l c t (by have := v.len; omega) l.length 0 (by omega)
    have j0 : ∀ b : Bool, b = decide (c < 0 ∨ 9 ≤ c) → Ev (fun k => dancestudioref24_At.j0 k l n c t b) (if c < 0 ∨ 9 ≤ c then (0, 16) else if t < 0 ∨ n ≤ t then (0, 1) else (firstI (atC c t) 0 l, 0)) := by
      rintro b rfl
      refine Ev.succ ?_
      simp only [dancestudioref24_At.j0, decide_eq_true_eq]
      by_cases h2 : c < 0 ∨ 9 ≤ c
      · simp only [h2, ↓reduceIte]; exact Ev.now _
      · simp only [h2, ↓reduceIte]
        by_cases h3 : t < 0
        · simp only [h3, ↓reduceIte]; have := j1 true (by simp [h3]); simpa [h3] using this
        · simp only [h3, ↓reduceIte, GE.ge]; have := j1 (decide (n ≤ t)) (by simp [h3]); simpa [h3] using this
    by_cases c1 : c < 0
    · simp only [c1, ↓reduceIte]; have := j0 true (by simp [c1]); simpa [c1] using this
    · simp only [c1, ↓reduceIte, GE.ge]; have := j0 (decide (9 ≤ c)) (by simp [c1]); simpa [c1] using this
  · simp only [h1, ↓reduceIte, not_false_eq_true]; exact Ev.now _
end Go.Proofs.Ytdilndbanhianaa.P

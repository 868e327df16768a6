/- What the reference's Cut says; no condition. -/
import Derived.Test.YtdilndbanhianaaMB
import Derived.Test.YtdilndbanhianaaMC
import Derived.Test.YtdilndbanhianaaP28
set_option linter.unusedVariables false
set_option linter.unusedSimpArgs false
namespace Go.Proofs.Ytdilndbanhianaa.P
open Go.RowKit Go.Proofs.YtdilndbanhianaaW.PrintWords Go.Proofs.YtdilndbanhianaaW.PrintLast Go.Proofs.YtdilndbanhianaaW.PrintMore
/-! Cut -/
theorem across_eq (s : S29) (t : Int) : dancestudioref24_across.f s.f0 s.f1 s.f2 s.f3 s.f4 s.f5 s.f6 t = some (decide (s.f2 < t) && decide (t < wrap64 (s.f2 + s.f3))) := by
  unfold dancestudioref24_across.f dancestudioref24_end.f
  by_cases h : s.f2 < t <;> simp [h]
theorem cut_in (f t : Int) (s : S29) (hs : chkO s = 0) (hb : badC f t s = false) : (decide (f ≤ s.f2) && decide (endS s ≤ t)) = inC f t s := by
  have h := chkO_in s hs
  have e := endW_eq s hs
  unfold endW at e
  simp only [badC, e, Bool.or_eq_false_iff, Bool.and_eq_false_iff, decide_eq_false_iff_not] at hb
  unfold inC
  by_cases h1 : f ≤ s.f2
  · simp only [h1, decide_true, Bool.true_and]
    rw [decide_eq_decide]; unfold endS at *; omega
  · simp [h1]
theorem rcut_l0 (l : List S29) (f t : Int) (hl : l.length ≤ 1000) (hf : 0 ≤ f ∧ f ≤ 8192) (hv : ∀ s ∈ l, chkO s = 0) : ∀ d i (acc : List S29), i + d = l.length → acc.length ≤ i →
    Ev (fun k => dancestudioref24_Cut.l0 k l acc (i : Int) f t) (if (l.drop i).any (badC f t) = true then ([], 17) else (acc ++ ((l.drop i).filter (inC f t)).map (movS (wrap64 (-f))), 0)) := by
  intro d
  induction d with
  | zero =>
    intro i acc hi ha
    refine Ev.succ ?_
    rw [show l.drop i = [] from List.drop_eq_nil_of_le (by omega)]
    simp only [dancestudioref24_Cut.l0, ltI, show ¬ i < l.length by omega, ↓reduceIte, List.filter_nil, List.map_nil, List.append_nil, List.any_nil, Bool.false_eq_true]
    exact Ev.now _
  | succ d ih =>
    intro i acc hi ha
    have h : i < l.length := by omega
    have hs := hv l[i] (List.getElem_mem h)
    have hr := chkO_in _ hs
    have j2 : Ev (fun k => dancestudioref24_Cut.j2 k l acc (i : Int) (badC f t l[i]) f t) (if (l.drop i).any (badC f t) = true then ([], 17) else (acc ++ ((l.drop i).filter (inC f t)).map (movS (wrap64 (-f))), 0)) := by
      refine Ev.succ ?_
      rw [drop_cons29 h, List.any_cons]
      cases hb : badC f t l[i]
      · have hin := cut_in f t l[i] hs hb
        have e := endW_eq _ hs
        unfold endW at e
        simp only [Bool.false_or, List.filter_cons]
        simp only [dancestudioref24_Cut.j2, Bool.false_eq_true, ↓reduceIte, ltI, h, ge0, rd29_at h, wrapS h (by omega : l.length ≤ 1000000), dancestudioref24_end.f, Option.bind_some, GE.ge, show acc.length < 2513169434916 by omega, e]
        by_cases c1 : f ≤ l[i].f2
        · by_cases c2 : endS l[i] ≤ t
          · have hi2 : inC f t l[i] = true := by rw [← hin]; simp [c1, c2]
            simp only [c1, c2, ↓reduceIte, hi2, List.map_cons]
            have ih' := ih (i + 1) (acc ++ [movS (wrap64 (-f)) l[i]]) (by omega) (by simp; omega)
            rw [List.append_assoc] at ih'
            have em : (⟨l[i].f0, l[i].f1, wrap64 (l[i].f2 - f), l[i].f3, l[i].f4, l[i].f5, l[i].f6⟩ : S29) = movS (wrap64 (-f)) l[i] := by
              unfold movS; congr 1; unfold wrap64; omega
            rw [em]
            exact ih'
          · have hi2 : inC f t l[i] = false := by rw [← hin]; simp [c2]
            simp only [c1, c2, ↓reduceIte, hi2, Bool.false_eq_true]
            exact ih (i + 1) acc (by omega) (by omega)
        · have hi2 : inC f t l[i] = false := by rw [← hin]; simp [c1]
          simp only [c1, ↓reduceIte, hi2, Bool.false_eq_true]
          exact ih (i + 1) acc (by omega) (by omega)
      · simp only [Bool.true_or, ↓reduceIte, dancestudioref24_Cut.j2]
        exact Ev.now _
    refine Ev.succ ?_
    simp only [dancestudioref24_Cut.l0, ltI, h, ge0, ↓reduceIte, rd29_at h, across_eq, Option.bind_some]
    unfold badC at j2
    cases hb : (decide (l[i].f2 < f) && decide (f < wrap64 (l[i].f2 + l[i].f3)))
    · simp only [Bool.false_eq_true, ↓reduceIte]
      rw [hb, Bool.false_or] at j2
      exact j2
    · simp only [↓reduceIte]
      rw [hb, Bool.true_or] at j2
      exact j2
theorem rcut_eq (l : List S29) (n f t : Int) : Ev (fun k => dancestudioref24_Cut.f k l n f t) (cutP l n f t) := by
  unfold dancestudioref24_Cut.f cutP
  refine Ev.bind (rchk_eq l n) ?_
  by_cases h1 : chkS l n = 0
  · have v := (chkS_ok l n).mp h1
    simp only [h1, ↓reduceIte, not_true_eq_false]
    have j0 : ∀ b : Bool, b = decide (f < 0 ∨ t ≤ f ∨ n < t) → Ev (fun k => dancestudioref24_Cut.j0 k l b f t) (if f < 0 ∨ t ≤ f ∨ n < t then ([], 1) else if l.any (badC f t) = true then ([], 17) else ((l.filter (inC f t)).map (movS (wrap64 (-f))), 0)) := by
      rintro b rfl
      refine Ev.succ ?_
      simp only [dancestudioref24_Cut.j0, decide_eq_true_eq]
      by_cases h2 : f < 0 ∨ t ≤ f ∨ n < t
      · simp only [h2, ↓reduceIte]; exact Ev.now _
      · simp only [h2, ↓reduceIte]
        have := rcut_l0 l f t (by have := v.len; omega) (by have := v.n1; omega) v.all l.length 0 [] (by omega) (by simp)
        simpa using this
    by_cases c1 : f < 0
    · simp only [c1, ↓reduceIte]; have := j0 true (by simp [c1]); simpa [c1] using this
    · simp only [c1, ↓reduceIte, GE.ge]
      by_cases c2 : t ≤ f
      · simp only [c2, ↓reduceIte]; have := j0 true (by simp [c2]); simpa [c1, c2] using this
      · simp only [c2, ↓reduceIte, GT.gt]; have := j0 (decide (n < t)) (by simp [c1, c2]); simpa [c1, c2] using this
  · simp only [h1, ↓reduceIte, not_false_eq_true]; exact Ev.now _
end Go.Proofs.Ytdilndbanhianaa.P

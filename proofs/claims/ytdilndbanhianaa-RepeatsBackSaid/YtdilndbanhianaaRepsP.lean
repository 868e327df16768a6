/- What repeats.cuttable, within and moved say, in plain words; no condition. -/
import Derived.Test.YtdilndbanhianaaVMB
import Derived.Test.YtdilndbanhianaaSecs
import Derived.Test.YtdilndbanhianaaVMC
import Derived.Test.YtdilndbanhianaaP34
import Derived.Test.YtdilndbanhianaaP37
set_option linter.unusedVariables false
set_option linter.unusedSimpArgs false
namespace Go.Proofs.Ytdilndbanhianaa.P
open Go.RowKit Go.Proofs.YtdilndbanhianaaW.PrintWords Go.Proofs.YtdilndbanhianaaW.PrintLast Go.Proofs.YtdilndbanhianaaW.PrintMore
/-- A symbol lies across a tick. -/
def acrB (t : Int) (s : S29) : Bool := decide (s.f2 < t) && decide (t < wrap64 (s.f2 + s.f3))
def cutB (l : List S29) (t : Int) : Bool := !l.any (acrB t)
def inB (f t : Int) (s : S29) : Bool := decide (f ≤ s.f2) && decide (s.f2 < t)
/-- The symbols that begin in a span. -/
def withinP (l : List S29) (s : S45) : List S29 := l.filter (inB s.f0 s.f1)
theorem cuttable_eq (l : List S29) (t : Int) (hl : l.length ≤ 1000) : Ev (fun k => repeats_cuttable.f k l t) (cutB l t) := by
  have main : ∀ d i, i + d = l.length → Ev (fun k => repeats_cuttable.l0 k t l (l.length : Int) (i : Int)) (!(l.drop i).any (acrB t)) := by
    intro d
    induction d with
    | zero =>
      intro i hi
      refine Ev.succ ?_
      rw [show l.drop i = [] from List.drop_eq_nil_of_le (by omega)]
      simp only [repeats_cuttable.l0, ltI, show ¬ i < l.length by omega, ↓reduceIte, List.any_nil, Bool.not_false]
      exact Ev.now _
    | succ d ih =>
      intro i hi
      have h : i < l.length := by omega
      have ih' := ih (i + 1) (by omega)
      refine Ev.succ ?_
      rw [drop_cons29 h, List.any_cons]
      simp only [repeats_cuttable.l0, ltI, h, ge0, ↓reduceIte, rd29_at h, wrapS h (by omega : l.length ≤ 1000000)]
      by_cases c1 : l[i].f2 < t
      · by_cases c2 : t < wrap64 (l[i].f2 + l[i].f3)
        · have : acrB t l[i] = true := by simp [acrB, c1, c2]
          simp only [c1, c2, ↓reduceIte, this, Bool.true_or, Bool.not_true]; exact Ev.now _
        · have : acrB t l[i] = false := by simp [acrB, c2]
          simp only [c1, c2, ↓reduceIte, this, Bool.false_or]; exact ih'
      · have : acrB t l[i] = false := by simp [acrB, c1]
        simp only [c1, ↓reduceIte, this, Bool.false_or]; exact ih'
  have := main l.length 0 (by omega)
  rw [List.drop_zero] at this
  exact this
theorem within_eq (l : List S29) (s : S45) (hl : l.length ≤ 1000) : Ev (fun k => repeats_within.f k l s.f0 s.f1) (withinP l s) := by
  have main : ∀ d i (acc : List S29), i + d = l.length → acc.length ≤ i → Ev (fun k => repeats_within.l0 k acc l (l.length : Int) (i : Int) s.f0 s.f1) (acc ++ (l.drop i).filter (inB s.f0 s.f1)) := by
    intro d
    induction d with
    | zero =>
      intro i acc hi ha
      refine Ev.succ ?_
      rw [show l.drop i = [] from List.drop_eq_nil_of_le (by omega)]
      simp only [repeats_within.l0, ltI, show ¬ i < l.length by omega, ↓reduceIte, List.filter_nil, List.append_nil]
      exact Ev.now _
    | succ d ih =>
      intro i acc hi ha
      have h : i < l.length := by omega
      refine Ev.succ ?_
      rw [drop_cons29 h, List.filter_cons]
      simp only [repeats_within.l0, ltI, h, ge0, ↓reduceIte, rd29_at h, wrapS h (by omega : l.length ≤ 1000000), GE.ge, show acc.length < 2513169434916 by omega, eta29]
      by_cases c1 : s.f0 ≤ l[i].f2
      · by_cases c2 : l[i].f2 < s.f1
        · have : inB s.f0 s.f1 l[i] = true := by simp [inB, c1, c2]
          have ih' := ih (i + 1) (acc ++ [l[i]]) (by omega) (by simp; omega)
          rw [List.append_assoc] at ih'
          simp only [c1, c2, ↓reduceIte, this]; exact ih'
        · have : inB s.f0 s.f1 l[i] = false := by simp [inB, c2]
          simp only [c1, c2, ↓reduceIte, this, Bool.false_eq_true]; exact ih (i + 1) acc (by omega) (by omega)
      · have : inB s.f0 s.f1 l[i] = false := by simp [inB, c1]
        simp only [c1, ↓reduceIte, this, Bool.false_eq_true]; exact ih (i + 1) acc (by omega) (by omega)
  have := main l.length 0 [] (by omega) (by simp)
  rw [List.drop_zero, List.nil_append] at this
  exact this
theorem rmoved_eq (l : List S29) (b : Int) (hl : l.length ≤ 1000) : Ev (fun k => repeats_moved.f k l b) (l.map (movS b)) := by
  have main : ∀ d i (acc : List S29), i + d = l.length → acc.length ≤ i → Ev (fun k => repeats_moved.l0 k b acc l (l.length : Int) (i : Int)) (acc ++ (l.drop i).map (movS b)) := by
    intro d
    induction d with
    | zero =>
      intro i acc hi ha
      refine Ev.succ ?_
      rw [show l.drop i = [] from List.drop_eq_nil_of_le (by omega)]
      simp only [repeats_moved.l0, ltI, show ¬ i < l.length by omega, ↓reduceIte, List.map_nil, List.append_nil]
      exact Ev.now _
    | succ d ih =>
      intro i acc hi ha
      have h : i < l.length := by omega
      refine Ev.succ ?_
      have ih' := ih (i + 1) (acc ++ [movS b l[i]]) (by omega) (by simp; omega)
      rw [List.append_assoc] at ih'
      rw [drop_cons29 h, List.map_cons]
      simp only [repeats_moved.l0, ltI, h, ge0, ↓reduceIte, rd29_at h, wrapS h (by omega : l.length ≤ 1000000), show acc.length < 2513169434916 by omega]
      exact ih'
  have := main l.length 0 [] (by omega) (by simp)
  rw [List.drop_zero, List.nil_append] at this
  exact this
theorem withinP_len (l : List S29) (s : S45) : (withinP l s).length ≤ l.length := List.length_filter_le _ _
/-! What repeats.Check says -/
def symS (l : List S29) (a : Int) (x : S45 × Int) : Int := wrap64 (a + wrap64 (((withinP l x.1).length : Int) * x.2))
def symsP (l : List S29) (n : Int) (r : List S61) : Int := (secsP n r).foldl (symS l) 0
def badR (n : Int) (x : S61) : Bool := decide (x.f0.f0 < 0) || (decide (x.f0.f1 ≤ x.f0.f0) || (decide (n < x.f0.f1) || (decide (x.f1 < 2) || decide (16 < x.f1))))
/-- Among the first k + 1 repetitions some one begins ahead of the end of that before it. -/
def ordK (r : List S61) : Nat → Bool
  | 0 => false
  | k + 1 => ordK r k || (if h : k + 1 < r.length then decide (r[k + 1].f0.f0 < r[k].f0.f1) else false)
theorem ordK_step (r : List S61) (k : Nat) (h : k + 1 < r.length) : ordK r (k + 1) = (ordK r k || decide (r[k + 1].f0.f0 < r[k].f0.f1)) := by simp only [ordK, dif_pos h]
theorem ordK_mono (r : List S61) (k : Nat) : ∀ m, k ≤ m → ordK r k = true → ordK r m = true := by
  intro m hm hk
  induction m with
  | zero => have : k = 0 := by omega
            subst this; exact hk
  | succ m ih =>
    by_cases e : k = m + 1
    · subst e; exact hk
    · simp only [ordK, ih (by omega), Bool.true_or]
def badC26 (l : List S29) (x : S61) : Bool := !cutB l x.f0.f0 || !cutB l x.f0.f1
end Go.Proofs.Ytdilndbanhianaa.P

/- What the reference's Join says; no condition. -/
import Derived.Test.YtdilndbanhianaaStaffJ0
import Derived.Test.YtdilndbanhianaaP25
set_option linter.unusedVariables false
set_option linter.unusedSimpArgs false
namespace Go.Proofs.Ytdilndbanhianaa.P
open Go.RowKit Go.Proofs.YtdilndbanhianaaW.PrintWords Go.Proofs.YtdilndbanhianaaW.PrintLast Go.Proofs.YtdilndbanhianaaW.PrintMore
theorem rjoin_l0 (b : List S29) (n : Int) (hb : b.length ≤ 1000) : ∀ d i (acc : List S29), i + d = b.length → acc.length ≤ 1000 + i → Ev (fun k => dancestudioref24_Join.l0 k n b acc (i : Int)) (acc ++ (b.drop i).map (movS n), 0) := by
  intro d
  induction d with
  | zero =>
    intro i acc hi ha
    refine Ev.succ ?_
    rw [show b.drop i = [] from List.drop_eq_nil_of_le (by omega)]
    simp only [dancestudioref24_Join.l0, ltI, show ¬ i < b.length by omega, ↓reduceIte, List.map_nil, List.append_nil]
    exact Ev.now _
  | succ d ih =>
    intro i acc hi ha
    have h : i < b.length := by omega
    refine Ev.succ ?_
    have ih' := ih (i + 1) (acc ++ [movS n b[i]]) (by omega) (by simp; omega)
    rw [List.append_assoc] at ih'
    rw [drop_cons29 h, List.map_cons]
    simp only [dancestudioref24_Join.l0, ltI, h, ge0, ↓reduceIte, rd29_at h, wrapS h (by omega : b.length ≤ 1000000), show acc.length < 2513169434916 by omega]
    exact ih'
theorem rjoin_eq (a : List S29) (n : Int) (b : List S29) (m : Int) : Ev (fun k => dancestudioref24_Join.f k a n b m) (joinP a n b m) := by
  unfold dancestudioref24_Join.f joinP
  refine Ev.bind (rchk_eq a n) ?_
  by_cases h1 : chkS a n = 0
  · have v1 := (chkS_ok a n).mp h1
    simp only [h1, ↓reduceIte, not_true_eq_false]
    refine Ev.bind (rchk_eq b m) ?_
    by_cases h2 : chkS b m = 0
    · have v2 := (chkS_ok b m).mp h2
      have e : wrap64 (n + m) = n + m := wrap_in _ (by have := v1.n0; have := v2.n0; omega) (by have := v1.n1; have := v2.n1; omega)
      have e2 : wrap64 ((a.length : Int) + (b.length : Int)) = ((a.length + b.length : Nat) : Int) := by have := v1.len; have := v2.len; unfold wrap64; omega
      simp only [h2, ↓reduceIte, e, e2, GT.gt, not_true_eq_false]
      by_cases h3 : 8192 < n + m
      · simp only [h3, ↓reduceIte]; exact Ev.now _
      · simp only [h3, ↓reduceIte]
        have hb := v2.len
        have ha := v1.len
        by_cases h4 : 256 < a.length + b.length
        · simp only [show (256 : Int) < ((a.length + b.length : Nat) : Int) by omega, h4, ↓reduceIte]; exact Ev.now _
        · simp only [show ¬ (256 : Int) < ((a.length + b.length : Nat) : Int) by omega, h4, ↓reduceIte, List.length_nil, show 0 + a.length < 2513169434916 by omega, List.nil_append]
          exact rjoin_l0 b n (by omega) b.length 0 a (by omega) (by omega)
    · simp only [h2, ↓reduceIte, not_false_eq_true]; exact Ev.now _
  · simp only [h1, ↓reduceIte, not_false_eq_true]; exact Ev.now _
end Go.Proofs.Ytdilndbanhianaa.P

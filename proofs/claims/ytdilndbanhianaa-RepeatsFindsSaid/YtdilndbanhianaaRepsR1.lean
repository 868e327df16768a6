/- What the reference of chapter 26 says of cuts and of one performance of a section; no condition. -/
import Derived.Test.YtdilndbanhianaaRpPerform
import Derived.Test.YtdilndbanhianaaP45
import Derived.Test.YtdilndbanhianaaP46
set_option linter.unusedVariables false
set_option linter.unusedSimpArgs false
namespace Go.Proofs.Ytdilndbanhianaa.P
open Go.RowKit Go.Proofs.YtdilndbanhianaaW.PrintWords Go.Proofs.YtdilndbanhianaaW.PrintLast Go.Proofs.YtdilndbanhianaaW.PrintMore
theorem rcut26_eq (l : List S29) (t : Int) (hl : l.length ≤ 1000) : Ev (fun k => dancestudioref26_cut.f k l t) (cutB l t) := by
  have main : ∀ d i, i + d = l.length → Ev (fun k => dancestudioref26_cut.l0 k l t (i : Int)) (!(l.drop i).any (acrB t)) := by
    intro d
    induction d with
    | zero =>
      intro i hi
      refine Ev.succ ?_
      rw [show l.drop i = [] from List.drop_eq_nil_of_le (by omega)]
      simp only [dancestudioref26_cut.l0, ltI, show ¬ i < l.length by omega, ↓reduceIte, List.any_nil, Bool.not_false]
      exact Ev.now _
    | succ d ih =>
      intro i hi
      have h : i < l.length := by omega
      have ih' := ih (i + 1) (by omega)
      refine Ev.succ ?_
      rw [drop_cons29 h, List.any_cons]
      simp only [dancestudioref26_cut.l0, ltI, h, ge0, ↓reduceIte, rd29_at h, wrapS h (by omega : l.length ≤ 1000000), GT.gt]
      by_cases c1 : l[i].f2 < t
      · by_cases c2 : t < wrap64 (l[i].f2 + l[i].f3)
        · have : acrB t l[i] = true := by simp [acrB, c1, c2]
          simp only [c1, c2, ↓reduceIte, this, Bool.true_or, Bool.not_true]; exact Ev.now _
        · have : acrB t l[i] = false := by simp [acrB, c2]
          simp only [c1, c2, ↓reduceIte, this, Bool.false_or]; exact ih'
      · have : acrB t l[i] = false := by simp [acrB, c1]
        simp only [c1, ↓reduceIte, this, Bool.false_or]; exact ih'
  have := main l.length 0 (by omega)
  rw [List.drop_zero] at this
  exact this
/-- The reference's sections. -/
def sc (x : S45 × Int) : S88 := ⟨x.1.f0, x.1.f1, x.2⟩
theorem rd88_at {xs : List S88} {i : Nat} (h : i < xs.length) : rd_T88 xs (i : Int) = xs[i] := by
  unfold rd_T88; rw [Int.toNat_natCast, List.getD_eq_getElem?_getD, List.getElem?_eq_getElem h, Option.getD_some]
theorem wrap_a (f fr at_ : Int) : wrap64 (wrap64 (f - fr) + at_) = wrap64 (f + wrap64 (at_ - fr)) := by unfold wrap64; omega
theorem wrap_b (at_ t fr : Int) : wrap64 (wrap64 (at_ + t) - fr) = wrap64 (at_ + wrap64 (t - fr)) := by unfold wrap64; omega
theorem rperf_l2 (l : List S29) (q : List (S45 × Int)) (hl : l.length ≤ 256) (j : Nat) (hj : j < q.length) (a : Int) (c : Int) (res : List S29) (acc0 : List S29) (ha : acc0.length ≤ 1000000)
    (hrest : Ev (fun k => dancestudioref26_performed.l1 k l (q.map sc) (acc0 ++ (withinP l q[j].1).map (movS (wrap64 (a - q[j].1.f0)))) (wrap64 (a + wrap64 (q[j].1.f1 - q[j].1.f0))) (j : Int) (wrap64 (c + 1))) res) :
    Ev (fun k => dancestudioref26_performed.l2 k l (q.map sc) acc0 a (j : Int) c 0) res := by
  have hj' : j < (q.map sc).length := by simpa using hj
  have main : ∀ d i (acc : List S29), i + d = l.length → acc = acc0 ++ ((l.take i).filter (inB q[j].1.f0 q[j].1.f1)).map (movS (wrap64 (a - q[j].1.f0))) → Ev (fun k => dancestudioref26_performed.l2 k l (q.map sc) acc a (j : Int) c (i : Int)) res := by
    intro d
    induction d with
    | zero =>
      intro i acc hi hacc
      refine Ev.succ ?_
      rw [List.take_of_length_le (by omega)] at hacc
      simp only [dancestudioref26_performed.l2, List.length_map, ltI, show ¬ i < l.length by omega, hj, ge0, ↓reduceIte, rd88_at hj', List.getElem_map, sc, wrap_b]
      rw [hacc]; exact hrest
    | succ d ih =>
      intro i acc hi hacc
      have h : i < l.length := by omega
      have hal : acc.length < 2513169434916 := by
        rw [hacc, List.length_append, List.length_map]
        have := List.length_filter_le (inB q[j].1.f0 q[j].1.f1) (l.take i)
        rw [List.length_take] at this; omega
      refine Ev.succ ?_
      simp only [dancestudioref26_performed.l2, List.length_map, ltI, h, hj, ge0, ↓reduceIte, rd29_at h, rd88_at hj', List.getElem_map, sc, wrapS h (by omega : l.length ≤ 1000000), GE.ge, hal, wrap_a]
      have htk : ((l.take (i + 1)).filter (inB q[j].1.f0 q[j].1.f1)) = (l.take i).filter (inB q[j].1.f0 q[j].1.f1) ++ (if inB q[j].1.f0 q[j].1.f1 l[i] = true then [l[i]] else []) := by
        rw [List.take_add_one, List.getElem?_eq_getElem h, List.filter_append]
        cases hh : inB q[j].1.f0 q[j].1.f1 l[i] <;> simp [hh]
      by_cases c1 : q[j].1.f0 ≤ l[i].f2
      · by_cases c2 : l[i].f2 < q[j].1.f1
        · have hin : inB q[j].1.f0 q[j].1.f1 l[i] = true := by simp [inB, c1, c2]
          simp only [c1, c2, ↓reduceIte]
          refine ih (i + 1) _ (by omega) ?_
          rw [htk, if_pos hin, List.map_append, ← List.append_assoc, ← hacc]; rfl
        · have hin : ¬ inB q[j].1.f0 q[j].1.f1 l[i] = true := by simp [inB, c2]
          simp only [c1, c2, ↓reduceIte]
          exact ih (i + 1) _ (by omega) (by rw [htk, if_neg hin, List.append_nil]; exact hacc)
      · have hin : ¬ inB q[j].1.f0 q[j].1.f1 l[i] = true := by simp [inB, c1]
        simp only [c1, ↓reduceIte]
        exact ih (i + 1) _ (by omega) (by rw [htk, if_neg hin, List.append_nil]; exact hacc)
  exact main l.length 0 acc0 (by omega) (by simp)
end Go.Proofs.Ytdilndbanhianaa.P

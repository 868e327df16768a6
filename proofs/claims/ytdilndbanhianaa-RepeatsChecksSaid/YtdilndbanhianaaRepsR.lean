/- What the reference's Check, Length and Perform of chapter 26 say, in the program's own plain words; no condition. -/
import Derived.Test.YtdilndbanhianaaRpPerform
import Derived.Test.YtdilndbanhianaaP44
import Derived.Test.YtdilndbanhianaaP43
import Derived.Test.YtdilndbanhianaaP46
import Derived.Test.YtdilndbanhianaaP45
import Derived.Test.YtdilndbanhianaaP47
set_option linter.unusedVariables false
set_option linter.unusedSimpArgs false
namespace Go.Proofs.Ytdilndbanhianaa.P
open Go.RowKit Go.Proofs.YtdilndbanhianaaW.PrintWords Go.Proofs.YtdilndbanhianaaW.PrintLast Go.Proofs.YtdilndbanhianaaW.PrintMore
theorem rcut26_eq (l : List S29) (t : Int) (hl : l.length ≤ 1000) : Ev (fun k => dancestudioref26_cut.f k l t) (cutB l t) := by
  have main : ∀ d i, i + d = l.length → Ev (fun k => dancestudioref26_cut.l0 k l t (i : Int)) (!(l.drop i).any (acrB t)) := by
    intro d
    induction d with
    | zero =>
      intro i hi
      refine Ev.succ ?_
      rw [show l.drop i = [] from List.drop_eq_nil_of_le (by omega)]
      simp only [dancestudioref26_cut.l0, ltI, show ¬ i < l.length by omega, ↓reduceIte, List.any_nil, Bool.not_false]
      exact Ev.now _
    | succ d ih =>
      intro i hi
      have h : i < l.length := by omega
      have ih' := ih (i + 1) (by omega)
      refine Ev.succ ?_
      rw [drop_cons29 h, List.any_cons]
      simp only [dancestudioref26_cut.l0, ltI, h, ge0, ↓reduceIte, rd29_at h, wrapS h (by omega : l.length ≤ 1000000), GT.gt]
      by_cases c1 : l[i].f2 < t
      · by_cases c2 : t < wrap64 (l[i].f2 + l[i].f3)
        · have : acrB t l[i] = true := by simp [acrB, c1, c2]
          simp only [c1, c2, ↓reduceIte, this, Bool.true_or, Bool.not_true]; exact Ev.now _
        · have : acrB t l[i] = false := by simp [acrB, c2]
          simp only [c1, c2, ↓reduceIte, this, Bool.false_or]; exact ih'
      · have : acrB t l[i] = false := by simp [acrB, c1]
        simp only [c1, ↓reduceIte, this, Bool.false_or]; exact ih'
  have := main l.length 0 (by omega)
  rw [List.drop_zero] at this
  exact this
/-- The reference's sections. -/
def sc (x : S45 × Int) : S88 := ⟨x.1.f0, x.1.f1, x.2⟩
theorem rsec_eq (n : Int) (r : List S61) (hl : r.length ≤ 16) : Ev (fun k => dancestudioref26_Sections.f k n r) ((secsP n r).map sc) := by
  have main : ∀ d i, i + d = r.length → Ev (fun k => dancestudioref26_Sections.l0 k n r ((secR r i).map sc) (atR r i) (i : Int)) ((secsP n r).map sc) := by
    intro d
    induction d with
    | zero =>
      intro i hi
      obtain rfl : i = r.length := by omega
      refine Ev.succ ?_
      have hlen := secR_len r r.length
      simp only [dancestudioref26_Sections.l0, ltI, Nat.lt_irrefl, ↓reduceIte, GT.gt, List.length_map, show (secR r r.length).length < 5864062014805 by omega]
      unfold secsP
      by_cases c : atR r r.length < n
      · simp only [c, ↓reduceIte, List.map_append]; exact Ev.now _
      · simp only [c, ↓reduceIte, List.append_nil]; exact Ev.now _
    | succ d ih =>
      intro i hi
      have h : i < r.length := by omega
      have ih' := ih (i + 1) (by omega)
      rw [secR_step r i h, atR_step r i h] at ih'
      have hlen := secR_len r i
      refine Ev.succ ?_
      simp only [dancestudioref26_Sections.l0, ltI, h, ge0, ↓reduceIte, rd61_at h, wrapS h (by omega : r.length ≤ 1000000), GT.gt, List.length_map, show (secR r i).length < 5864062014805 by omega, Option.bind_some, List.length_append, List.length_singleton, show (secR r i).length + 1 < 5864062014805 by omega]
      by_cases c : atR r i < r[i].f0.f0
      · simp only [c, ↓reduceIte] at ih' ⊢
        simp only [List.map_append, List.map_cons, List.map_nil, sc] at ih'
        rw [← List.append_assoc] at ih'
        exact ih'
      · simp only [c, ↓reduceIte, List.nil_append] at ih' ⊢
        simp only [List.map_append, List.map_cons, List.map_nil, sc] at ih'
        exact ih'
  exact main r.length 0 (by omega)
theorem rd88_at {xs : List S88} {i : Nat} (h : i < xs.length) : rd_T88 xs (i : Int) = xs[i] := by
  unfold rd_T88; rw [Int.toNat_natCast, List.getD_eq_getElem?_getD, List.getElem?_eq_getElem h, Option.getD_some]
theorem rtotal_eq (q : List (S45 × Int)) (hl : q.length ≤ 1000) : Ev (fun k => dancestudioref26_total.f k (q.map sc)) (q.foldl tickS 0) := by
  have main : ∀ d i a, i + d = q.length → Ev (fun k => dancestudioref26_total.l0 k (q.map sc) a (i : Int)) ((q.drop i).foldl tickS a) := by
    intro d
    induction d with
    | zero =>
      intro i a hi
      refine Ev.succ ?_
      rw [show q.drop i = [] from List.drop_eq_nil_of_le (by omega)]
      simp only [dancestudioref26_total.l0, List.length_map, ltI, show ¬ i < q.length by omega, ↓reduceIte, List.foldl_nil]
      exact Ev.now _
    | succ d ih =>
      intro i a hi
      have h : i < q.length := by omega
      have h' : i < (q.map sc).length := by simpa using h
      have ih' := ih (i + 1) (tickS a q[i]) (by omega)
      refine Ev.succ ?_
      rw [List.drop_eq_getElem_cons h, List.foldl_cons]
      simp only [dancestudioref26_total.l0, List.length_map, ltI, h, ge0, ↓reduceIte, rd88_at h', wrapS h (by omega : q.length ≤ 1000000), List.getElem_map, sc]
      exact ih'
  exact main q.length 0 0 (by omega)
theorem wrap_a (f fr at_ : Int) : wrap64 (wrap64 (f - fr) + at_) = wrap64 (f + wrap64 (at_ - fr)) := by unfold wrap64; omega
theorem wrap_b (at_ t fr : Int) : wrap64 (wrap64 (at_ + t) - fr) = wrap64 (at_ + wrap64 (t - fr)) := by unfold wrap64; omega
theorem rperf_l2 (l : List S29) (q : List (S45 × Int)) (hl : l.length ≤ 256) (j : Nat) (hj : j < q.length) (a : Int) (c : Int) (res : List S29) (acc0 : List S29) (ha : acc0.length ≤ 1000000)
    (hrest : Ev (fun k => dancestudioref26_performed.l1 k l (q.map sc) (acc0 ++ (withinP l q[j].1).map (movS (wrap64 (a - q[j].1.f0)))) (wrap64 (a + wrap64 (q[j].1.f1 - q[j].1.f0))) (j : Int) (wrap64 (c + 1))) res) :
    Ev (fun k => dancestudioref26_performed.l2 k l (q.map sc) acc0 a (j : Int) c 0) res := by
  have hj' : j < (q.map sc).length := by simpa using hj
  have main : ∀ d i (acc : List S29), i + d = l.length → acc = acc0 ++ ((l.take i).filter (inB q[j].1.f0 q[j].1.f1)).map (movS (wrap64 (a - q[j].1.f0))) → Ev (fun k => dancestudioref26_performed.l2 k l (q.map sc) acc a (j : Int) c (i : Int)) res := by
    intro d
    induction d with
    | zero =>
      intro i acc hi hacc
      refine Ev.succ ?_
      rw [List.take_of_length_le (by omega)] at hacc
      simp only [dancestudioref26_performed.l2, List.length_map, ltI, show ¬ i < l.length by omega, hj, ge0, ↓reduceIte, rd88_at hj', List.getElem_map, sc, wrap_b]
      rw [hacc]; exact hrest
    | succ d ih =>
      intro i acc hi hacc
      have h : i < l.length := by omega
      have hal : acc.length < 2513169434916 := by
        rw [hacc, List.length_append, List.length_map]
        have := List.length_filter_le (inB q[j].1.f0 q[j].1.f1) (l.take i)
        rw [List.length_take] at this; omega
      refine Ev.succ ?_
      simp only [dancestudioref26_performed.l2, List.length_map, ltI, h, hj, ge0, ↓reduceIte, rd29_at h, rd88_at hj', List.getElem_map, sc, wrapS h (by omega : l.length ≤ 1000000), GE.ge, hal, wrap_a]
      have htk : ((l.take (i + 1)).filter (inB q[j].1.f0 q[j].1.f1)) = (l.take i).filter (inB q[j].1.f0 q[j].1.f1) ++ (if inB q[j].1.f0 q[j].1.f1 l[i] = true then [l[i]] else []) := by
        rw [List.take_add_one, List.getElem?_eq_getElem h, List.filter_append]
        cases hh : inB q[j].1.f0 q[j].1.f1 l[i] <;> simp [hh]
      by_cases c1 : q[j].1.f0 ≤ l[i].f2
      · by_cases c2 : l[i].f2 < q[j].1.f1
        · have hin : inB q[j].1.f0 q[j].1.f1 l[i] = true := by simp [inB, c1, c2]
          simp only [c1, c2, ↓reduceIte]
          refine ih (i + 1) _ (by omega) ?_
          rw [htk, if_pos hin, List.map_append, ← List.append_assoc, ← hacc]; rfl
        · have hin : ¬ inB q[j].1.f0 q[j].1.f1 l[i] = true := by simp [inB, c2]
          simp only [c1, c2, ↓reduceIte]
          exact ih (i + 1) _ (by omega) (by rw [htk, if_neg hin, List.append_nil]; exact hacc)
      · have hin : ¬ inB q[j].1.f0 q[j].1.f1 l[i] = true := by simp [inB, c1]
        simp only [c1, ↓reduceIte]
        exact ih (i + 1) _ (by omega) (by rw [htk, if_neg hin, List.append_nil]; exact hacc)
  exact main l.length 0 acc0 (by omega) (by simp)
theorem rperf_eq (l : List S29) (q : List (S45 × Int)) (hl : l.length ≤ 256) (hq : q.length ≤ 40) (ht : ∀ x ∈ q, x.2 ≤ 16) : Ev (fun k => dancestudioref26_performed.f k l (q.map sc)) (q.foldl (perfS l) ([], 0)).1 := by
  have main : ∀ d j (st : List S29 × Int), j + d = q.length → st.1.length ≤ j * 4096 → Ev (fun k => dancestudioref26_performed.l0 k l (q.map sc) st.1 st.2 (j : Int)) ((q.drop j).foldl (perfS l) st).1 := by
    intro d
    induction d with
    | zero =>
      intro j st hj _
      refine Ev.succ ?_
      rw [show q.drop j = [] from List.drop_eq_nil_of_le (by omega)]
      simp only [dancestudioref26_performed.l0, List.length_map, ltI, show ¬ j < q.length by omega, ↓reduceIte, List.foldl_nil]
      exact Ev.now _
    | succ d ih =>
      intro j st hj hst
      have h : j < q.length := by omega
      have h' : j < (q.map sc).length := by simpa using h
      have hx := ht q[j] (List.getElem_mem h)
      have hwl := withinP_len l q[j].1
      have ih' := ih (j + 1) (perfS l st q[j]) (by omega) (by
        rw [perfS_len]
        have : q[j].2.toNat * (withinP l q[j].1).length ≤ 16 * 256 := Nat.mul_le_mul (by omega) (by omega)
        omega)
      rw [List.drop_eq_getElem_cons h, List.foldl_cons]
      refine Ev.succ ?_
      simp only [dancestudioref26_performed.l0, List.length_map, ltI, h, ↓reduceIte]
      have inner : ∀ e c, c + e = q[j].2.toNat → Ev (fun k => dancestudioref26_performed.l1 k l (q.map sc) (repS l q[j] c st).1 (repS l q[j] c st).2 (j : Int) (c : Int)) ((q.drop (j + 1)).foldl (perfS l) (perfS l st q[j])).1 := by
        intro e
        induction e with
        | zero =>
          intro c hc
          obtain rfl : c = q[j].2.toNat := by omega
          refine Ev.succ ?_
          simp only [dancestudioref26_performed.l1, List.length_map, ltI, h, ge0, ↓reduceIte, rd88_at h', List.getElem_map, sc, show ¬ ((q[j].2.toNat : Nat) : Int) < q[j].2 by omega, wrapS h (by omega : q.length ≤ 1000000)]
          exact ih'
        | succ e ihe =>
          intro c hc
          have ihe' := ihe (c + 1) (by omega)
          refine Ev.succ ?_
          simp only [dancestudioref26_performed.l1, List.length_map, ltI, h, ge0, ↓reduceIte, rd88_at h', List.getElem_map, sc, show ((c : Nat) : Int) < q[j].2 by omega]
          refine rperf_l2 l q hl j h _ _ _ _ ?_ ?_
          · rw [repS_len]
            have : c * (withinP l q[j].1).length ≤ 16 * 256 := Nat.mul_le_mul (by omega) (by omega)
            omega
          · rw [show wrap64 ((c : Int) + 1) = ((c + 1 : Nat) : Int) by unfold wrap64; omega]
            exact ihe'
      exact inner q[j].2.toNat 0 (by omega)
  have := main q.length 0 ([], 0) (by omega) (by simp)
  rw [List.drop_zero] at this
  exact this
theorem perf_len (l : List S29) (hl : l.length ≤ 256) : ∀ (q : List (S45 × Int)) (st : List S29 × Int) (a : Int), (∀ x ∈ q, 1 ≤ x.2 ∧ x.2 ≤ 16) → (st.1.length : Int) = a → a + q.length * 4096 ≤ 1000000 → ((q.foldl (perfS l) st).1.length : Int) = q.foldl (symS l) a
  | [], st, a, _, h, _ => h
  | x :: q, st, a, ht, h, hb => by
    rw [List.foldl_cons, List.foldl_cons]
    have hx := ht x (by simp)
    have hwl := withinP_len l x.1
    have hm : x.2.toNat * (withinP l x.1).length ≤ 16 * 256 := Nat.mul_le_mul (by omega) (by omega)
    have hmul : (((withinP l x.1).length : Int) * x.2) = ((x.2.toNat * (withinP l x.1).length : Nat) : Int) := by
      rw [Int.natCast_mul, Int.toNat_of_nonneg (by omega), Int.mul_comm]
    simp only [List.length_cons] at hb
    have e : symS l a x = ((perfS l st x).1.length : Int) := by
      rw [perfS_len]; unfold symS
      have hi : wrap64 ((x.2.toNat * (withinP l x.1).length : Nat) : Int) = ((x.2.toNat * (withinP l x.1).length : Nat) : Int) := wrap_in _ (by omega) (by omega)
      rw [hmul, hi, wrap_in _ (by omega) (by omega), Int.natCast_add]; omega
    refine perf_len l hl q _ _ (fun y hy => ht y (by simp [hy])) e.symm ?_
    rw [e, perfS_len, Int.natCast_add]; omega
theorem syms_eq {l : List S29} {n : Int} {r : List S61} (hl : l.length ≤ 256) (hr : r.length ≤ 16) (hb : r.any (badR n) = false) : (((secsP n r).foldl (perfS l) ([], 0)).1.length : Int) = symsP l n r :=
  perf_len l hl (secsP n r) ([], 0) 0 (secs_times hb) rfl (by have := secsP_len n r; omega)
theorem drop_cons61 {l : List S61} {i : Nat} (h : i < l.length) : l.drop i = l[i] :: l.drop (i + 1) := List.drop_eq_getElem_cons h
set_option maxRecDepth 100000 in
theorem rchk26_l2 (l : List S29) (n : Int) (r : List S61) (hl : l.length ≤ 256) (hr : r.length ≤ 16) (hb : r.any (badR n) = false) : ∀ d i, i + d = r.length →
    Ev (fun k => dancestudioref26_Check.l2 k l n r (i : Int)) (if (r.drop i).any (badC26 l) = true then 17 else if 8192 < perfP n r then 1 else if 256 < symsP l n r then 3 else 0) := by
  intro d
  induction d with
  | zero =>
    intro i hi
    refine Ev.succ ?_
    rw [show r.drop i = [] from List.drop_eq_nil_of_le (by omega)]
    simp only [dancestudioref26_Check.l2, ltI, show ¬ i < r.length by omega, ↓reduceIte, List.any_nil, Bool.false_eq_true]
    refine Ev.bind (rsec_eq n r hr) ?_
    refine Ev.bind (rtotal_eq (secsP n r) (by have := secsP_len n r; omega)) ?_
    have e1 : (secsP n r).foldl tickS 0 = perfP n r := rfl
    simp only [e1, GT.gt]
    by_cases c : 8192 < perfP n r
    · simp only [c, ↓reduceIte]; exact Ev.now _
    · simp only [c, ↓reduceIte]
      refine Ev.bind (rperf_eq l (secsP n r) hl (by have := secsP_len n r; omega) (fun x hx => (secs_times hb x hx).2)) ?_
      simp only [syms_eq hl hr hb]
      by_cases c2 : 256 < symsP l n r
      · simp only [c2, ↓reduceIte]; exact Ev.now _
      · simp only [c2, ↓reduceIte]; exact Ev.now _
  | succ d ih =>
    intro i hi
    have h : i < r.length := by omega
    have ih' := ih (i + 1) (by omega)
    refine Ev.succ ?_
    rw [drop_cons61 h, List.any_cons]
    simp only [dancestudioref26_Check.l2, ltI, h, ge0, ↓reduceIte, rd61_at h, wrapS h (by omega : r.length ≤ 1000000)]
    refine Ev.bind (rcut26_eq l _ (by omega)) ?_
    cases c1 : cutB l r[i].f0.f0
    · have : badC26 l r[i] = true := by simp [badC26, c1]
      simp only [Bool.false_eq_true, ↓reduceIte, this, Bool.true_or]; exact Ev.now _
    · simp only [↓reduceIte]
      refine Ev.bind (rcut26_eq l _ (by omega)) ?_
      cases c2 : cutB l r[i].f0.f1
      · have : badC26 l r[i] = true := by simp [badC26, c2]
        simp only [Bool.false_eq_true, ↓reduceIte, this, Bool.true_or]; exact Ev.now _
      · have : badC26 l r[i] = false := by simp [badC26, c1, c2]
        simp only [↓reduceIte, this, Bool.false_or]; exact ih'
set_option maxRecDepth 100000 in
theorem rchk26_l1 (l : List S29) (n : Int) (r : List S61) (hr : r.length ≤ 16) (res : Int) (hrest : Ev (fun k => dancestudioref26_Check.l2 k l n r 0) res) : ∀ d j, j + 1 + d = r.length → ordK r j = false →
    Ev (fun k => dancestudioref26_Check.l1 k l n r ((j + 1 : Nat) : Int)) (if ordK r (r.length - 1) = true then 5 else res) := by
  intro d
  induction d with
  | zero =>
    intro j hj ho
    refine Ev.succ ?_
    rw [show r.length - 1 = j by omega, ho]
    simp only [dancestudioref26_Check.l1, ltI, show ¬ j + 1 < r.length by omega, ↓reduceIte, Bool.false_eq_true]
    exact hrest
  | succ d ih =>
    intro j hj ho
    have h0 : j < r.length := by omega
    have h : j + 1 < r.length := by omega
    have hs := ordK_step r j h
    rw [ho, Bool.false_or] at hs
    refine Ev.succ ?_
    simp only [dancestudioref26_Check.l1, ltI, h, h0, ge0, ↓reduceIte, wrapPr (show j ≤ 1000000 by omega), rd61_at h0, rd61_at h, wrapS h (by omega : r.length ≤ 1000000)]
    by_cases c : r[j + 1].f0.f0 < r[j].f0.f1
    · rw [show ordK r (r.length - 1) = true from ordK_mono r (j + 1) _ (by omega) (by rw [hs]; simpa using c)]
      simp only [c, ↓reduceIte]; exact Ev.now _
    · simp only [c, ↓reduceIte]
      exact ih (j + 1) (by omega) (by rw [hs]; simpa using c)
set_option maxRecDepth 100000 in
theorem rchk26_l0 (l : List S29) (n : Int) (r : List S61) (hl : l.length ≤ 256) (hr : r.length ≤ 16) : ∀ d i, i + d = r.length → (r.take i).any (badR n) = false →
    Ev (fun k => dancestudioref26_Check.l0 k l n r (i : Int)) (if r.any (badR n) = true then 1 else if ordK r (r.length - 1) = true then 5 else if r.any (badC26 l) = true then 17 else if 8192 < perfP n r then 1 else if 256 < symsP l n r then 3 else 0) := by
  intro d
  induction d with
  | zero =>
    intro i hi hb
    rw [List.take_of_length_le (by omega)] at hb
    refine Ev.succ ?_
    simp only [dancestudioref26_Check.l0, ltI, show ¬ i < r.length by omega, ↓reduceIte, hb, Bool.false_eq_true]
    have h2 := rchk26_l2 l n r hl hr hb r.length 0 (by omega)
    rw [List.drop_zero] at h2
    cases hc : r.length with
    | zero =>
      have : r = [] := List.length_eq_zero_iff.mp hc
      subst this
      refine Ev.succ ?_
      simp only [dancestudioref26_Check.l1, List.length_nil, ordK, ↓reduceIte, Bool.false_eq_true]
      exact h2
    | succ m =>
      have := rchk26_l1 l n r hr _ h2 m 0 (by omega) rfl
      rw [hc] at this
      exact this
  | succ d ih =>
    intro i hi hb
    have h : i < r.length := by omega
    have htk : (r.take (i + 1)).any (badR n) = badR n r[i] := by
      rw [List.take_add_one, List.getElem?_eq_getElem h, List.any_append, hb]; simp
    have hbad : badR n r[i] = true → r.any (badR n) = true := fun hh => List.any_eq_true.mpr ⟨_, List.getElem_mem h, hh⟩
    refine Ev.succ ?_
    simp only [dancestudioref26_Check.l0, ltI, h, ge0, ↓reduceIte, rd61_at h, wrapS h (by omega : r.length ≤ 1000000), GE.ge, GT.gt]
    by_cases c1 : r[i].f0.f0 < 0
    · rw [hbad (by simp [badR, c1])]; simp only [c1, ↓reduceIte]; exact Ev.now _
    · by_cases c2 : r[i].f0.f1 ≤ r[i].f0.f0
      · rw [hbad (by simp [badR, c2])]; simp only [c1, c2, ↓reduceIte]; exact Ev.now _
      · by_cases c3 : n < r[i].f0.f1
        · rw [hbad (by simp [badR, c3])]; simp only [c1, c2, c3, ↓reduceIte]; exact Ev.now _
        · by_cases c4 : r[i].f1 < 2
          · rw [hbad (by simp [badR, c4])]; simp only [c1, c2, c3, c4, ↓reduceIte]; exact Ev.now _
          · by_cases c5 : 16 < r[i].f1
            · rw [hbad (by simp [badR, c5])]; simp only [c1, c2, c3, c4, c5, ↓reduceIte]; exact Ev.now _
            · simp only [c1, c2, c3, c4, c5, ↓reduceIte]
              exact ih (i + 1) (by omega) (by rw [htk]; simp only [badR, c1, c2, c3, c4, c5, decide_false, Bool.or_self])
/-- The reference's Check. -/
theorem rchk26_eq (l : List S29) (n : Int) (r : List S61) : Ev (fun k => dancestudioref26_Check.f k l n r) (rCheckP l n r) := by
  unfold dancestudioref26_Check.f rCheckP
  refine Ev.bind (rchk_eq l n) ?_
  by_cases h1 : chkS l n = 0
  · have v := (chkS_ok l n).mp h1
    simp only [h1, ↓reduceIte, not_true_eq_false, GT.gt]
    by_cases h2 : 16 < r.length
    · simp only [show (16 : Int) < (r.length : Int) by omega, h2, ↓reduceIte]; exact Ev.now _
    · simp only [show ¬ (16 : Int) < (r.length : Int) by omega, h2, ↓reduceIte]
      exact rchk26_l0 l n r v.len (by omega) r.length 0 (by omega) rfl
  · simp only [h1, ↓reduceIte, not_false_eq_true]; exact Ev.now _
end Go.Proofs.Ytdilndbanhianaa.P
